/-
  The document's index: New, Add, Up, Chain.
-/
import Derived.Test.YtgfkpemnkmebkaaDoorMI
import Derived.Test.YtgfkpemnkmebkaaDoorMG
import Derived.Test.YtgfkpemnkmebkaaDoorMF
set_option linter.unusedVariables false
namespace Go.Proofs.YtgfkpemnkmebkaaDoor
open Go Go.Lite Go.RowKit

section
variable {w w' : World} {F F' S : Nat → Prop} {r : Nat} {D : DG} {P : List Int} {K : Value → World → Prop}
end
end Go.Proofs.YtgfkpemnkmebkaaDoor
/-
  The document's index: New, Add.
-/
namespace Go.Proofs.YtgfkpemnkmebkaaDoor
open Go Go.Lite Go.RowKit

theorem hash_set {v : World} {b : Nat} {z : Array Value} {t : TypeId} (s : HT) (h : v.heap[b]? = some (.cells z t (0, 0))) (hz : z.size = 32) :
    (s.1.size = 32 ∧ (∀ c ∈ s.1.toList, c.oneCell' = true) ∧ ∀ j, j < 32 → Wr v ((⟨b, 0, none⟩ : Addr).add j)) ∧ (setCells v (⟨b, 0, none⟩ : Addr) s.1.toList 0).heap[b]? = some (.cells s.1 t (0, 0)) ∧ Kept (· = b) v (setCells v (⟨b, 0, none⟩ : Addr) s.1.toList 0) := by
  obtain ⟨h1, h2, h3⟩ := set_box h (cs := s.1) (by rw [s.2.1]; exact hz)
  exact ⟨⟨s.2.1, s.2.one, fun j hj => h1 j (by rw [s.2.1]; exact hj)⟩, h2, h3⟩
section
variable {w w' : World} {F F' S : Nat → Prop} {r : Nat} {D : DG} {P : List Int} {K : Value → World → Prop}
end
end Go.Proofs.YtgfkpemnkmebkaaDoor
/-
  Steps of an index; few, all; both indexes side by side; begin.
-/
namespace Go.Proofs.YtgfkpemnkmebkaaDoor
open Go Go.Lite Go.RowKit

section
variable {w w' v : World} {F FP FR S S2 F2 : Nat → Prop} {x r : Nat} {D D' : DG} {P P' : List Int} {K : Value → World → Prop}
/-- Add of an index, whatever comes of it -/
theorem reach_AddI (h : IsX w S F x D P) (hD : D.length ≤ 5000) (hT : Tab w) (hTn : ¬ S (Tryd.tzL_ren.g 1)) {A : Option Addr} {n cx : Nat} {lp : List HT} (hl : HS w A n lp) (hn : n ≤ 5000) (hid s : HT)
    (hK : ∀ u S' F', IsX u S' F' x (addXD D hid s lp) (addXP D P hid s lp) → Kept S w u → (∀ k, S' k → S k ∨ w.heap.size ≤ k) → (∀ k, F' k → F k ∨ w.heap.size ≤ k) → K (.int .i64 (addXC D hid s lp)) u) :
    Ret Tryd.prog reach_Index_Add.id #[.pointer (some ⟨x, 0, none⟩), .agg hid.1, .agg s.1, .slice A n cx] w K := by
  obtain ⟨m, h1, h2⟩ := h
  refine reach_Add h1 hD hT (fun e => hTn (h2 _ (.inl e))) hl hn hid s (fun u k hc => ?_) (fun u S' F' hI k hS hF hc => ?_)
  · refine hK u S F ?_ (k.mono fun _ _ h => h.elim) (fun k h => .inl h) (fun k h => .inl h)
    unfold addXD addXP
    rw [if_neg hc, if_neg hc]
    exact ⟨m, h1.same k, h2⟩
  · have := hK u S' F' hI (k.mono fun k _ h => h2 k h) (fun k h => (hS k h).imp (h2 k) (fun h => h)) hF
    rw [hc] at this
    exact this

/-! what steps come to -/
end
end Go.Proofs.YtgfkpemnkmebkaaDoor
/-
  known: the chapter's rows.
-/
namespace Go.Proofs.YtgfkpemnkmebkaaDoor
open Go Go.Lite Go.RowKit
open Tr (Und)

/-- four boxes of hashes, written one behind the other -/
theorem four (w : World) (r a b c : HT) :
    let w1 := w.alloc (.cells hnull.1 T_api_Hash); let w2 := w1.alloc (.cells hnull.1 T_api_Hash); let w3 := w2.alloc (.cells hnull.1 T_api_Hash); let w4 := w3.alloc (.cells hnull.1 T_api_Hash)
    let w7 := setCells w4 (⟨w.heap.size, 0, none⟩ : Addr) r.1.toList 0; let w10 := setCells w7 (⟨w1.heap.size, 0, none⟩ : Addr) a.1.toList 0; let w13 := setCells w10 (⟨w2.heap.size, 0, none⟩ : Addr) b.1.toList 0; let w16 := setCells w13 (⟨w3.heap.size, 0, none⟩ : Addr) c.1.toList 0
    ((∀ j, j < 32 → Wr w4 ((⟨w.heap.size, 0, none⟩ : Addr).add j)) ∧ (∀ j, j < 32 → Wr w7 ((⟨w1.heap.size, 0, none⟩ : Addr).add j)) ∧ (∀ j, j < 32 → Wr w10 ((⟨w2.heap.size, 0, none⟩ : Addr).add j)) ∧ (∀ j, j < 32 → Wr w13 ((⟨w3.heap.size, 0, none⟩ : Addr).add j))) ∧
    w16.heap[w.heap.size]? = some (.cells r.1 T_api_Hash (0, 0)) ∧ w16.heap[w1.heap.size]? = some (.cells a.1 T_api_Hash (0, 0)) ∧ w16.heap[w2.heap.size]? = some (.cells b.1 T_api_Hash (0, 0)) ∧ w16.heap[w3.heap.size]? = some (.cells c.1 T_api_Hash (0, 0)) ∧
    w.heap.size < w1.heap.size ∧ w1.heap.size < w2.heap.size ∧ w2.heap.size < w3.heap.size ∧ w3.heap.size < w16.heap.size ∧ Kept Nil w w16 := by
  intro w1 w2 w3 w4
  have k1' : Kept Nil w w1 := (Kept.refl _ _).alloc _
  have k2' : Kept Nil w1 w2 := (Kept.refl _ _).alloc _
  have k3' : Kept Nil w2 w3 := (Kept.refl _ _).alloc _
  have k4' : Kept Nil w3 w4 := (Kept.refl _ _).alloc _
  have hr1 : w1.heap[w.heap.size]? = some (.cells hnull.1 T_api_Hash (0, 0)) := new_blk w _
  have ha2 : w2.heap[w1.heap.size]? = some (.cells hnull.1 T_api_Hash (0, 0)) := new_blk w1 _
  have hb3 : w3.heap[w2.heap.size]? = some (.cells hnull.1 T_api_Hash (0, 0)) := new_blk w2 _
  have hc4 : w4.heap[w3.heap.size]? = some (.cells hnull.1 T_api_Hash (0, 0)) := new_blk w3 _
  clear_value w4
  have hb4 := k4'.heap hb3 (fun h => h)
  have ha4 := k4'.heap (k3'.heap ha2 (fun h => h)) (fun h => h)
  have hr4 := k4'.heap (k3'.heap (k2'.heap hr1 (fun h => h)) (fun h => h)) (fun h => h)
  have l1 := lt_blk hr1
  have l2 := lt_blk ha2
  have l3 := lt_blk hb3
  have l4 := lt_blk hc4
  clear_value w3 w2 w1
  have kw4 : Kept Nil w w4 := ((k1'.trans k2' (fun _ _ h => h)).trans k3' (fun _ _ h => h)).trans k4' (fun _ _ h => h)
  have sz : ∀ h : HT, hnull.1.size = h.1.size := fun h => by rw [h.2.1]; rfl
  obtain ⟨wr7, hr7, k7⟩ := set_box hr4 (cs := r.1) (sz r)
  rw [r.2.1] at wr7
  intro w7
  replace hr7 : w7.heap[w.heap.size]? = some (.cells r.1 T_api_Hash (0, 0)) := hr7
  replace k7 : Kept (· = w.heap.size) w4 w7 := k7
  clear_value w7
  obtain ⟨wr10, ha10, k10⟩ := set_box (k7.heap ha4 (by omega)) (cs := a.1) (sz a)
  rw [a.2.1] at wr10
  intro w10
  replace ha10 : w10.heap[w1.heap.size]? = some (.cells a.1 T_api_Hash (0, 0)) := ha10
  replace k10 : Kept (· = w1.heap.size) w7 w10 := k10
  clear_value w10
  obtain ⟨wr13, hb13, k13⟩ := set_box (k10.heap (k7.heap hb4 (by omega)) (by omega)) (cs := b.1) (sz b)
  rw [b.2.1] at wr13
  intro w13
  replace hb13 : w13.heap[w2.heap.size]? = some (.cells b.1 T_api_Hash (0, 0)) := hb13
  replace k13 : Kept (· = w2.heap.size) w10 w13 := k13
  clear_value w13
  obtain ⟨wr16, hc16, k16⟩ := set_box (k13.heap (k10.heap (k7.heap hc4 (by omega)) (by omega)) (by omega)) (cs := c.1) (sz c)
  rw [c.2.1] at wr16
  intro w16
  replace hc16 : w16.heap[w3.heap.size]? = some (.cells c.1 T_api_Hash (0, 0)) := hc16
  replace k16 : Kept (· = w3.heap.size) w13 w16 := k16
  clear_value w16
  have s16 := lt_blk hc16
  exact ⟨⟨wr7, wr10, wr13, wr16⟩, k16.heap (k13.heap (k10.heap hr7 (by omega)) (by omega)) (by omega), k16.heap (k13.heap ha10 (by omega)) (by omega), k16.heap hb13 (by omega), hc16, by omega, by omega, by omega, s16,
    (((kw4.trans k7 (fun k hk e => by omega)).trans k10 (fun k hk e => by omega)).trans k13 (fun k hk e => by omega)).trans k16 (fun k hk e => by omega)⟩

section
variable {r a b c : HT} (hra : r ≠ a) (hrb : r ≠ b) (hrc : r ≠ c) (hab : a ≠ b) (hac : a ≠ c) (hbc : b ≠ c)
theorem addX_yes {D : DG} {P : List Int} {h s : HT} {l : List HT} (hc : addC D h l = 0) (hs : s ∈ l) {j : Nat} (hj : pos s (ids D) 0 = some j) : addXC D h s l = 0 ∧ addXD D h s l = addD D h l ∧ addXP D P h s l = P ++ [(j : Int)] := by
  have e : addXC D h s l = 0 := by unfold addXC; rw [if_pos hc, if_pos hs]
  refine ⟨e, ?_, ?_⟩
  · unfold addXD addD
    rw [if_pos e, if_pos hc]
  · unfold addXP
    rw [if_pos e, hj]
    rfl
abbrev kP : List Int := [-1, 0, 0, 1]
theorem kSel : Sel (kD r a b c) kP where
  len := rfl
  root := rfl
  up := fun i p nd hi hp hnd => by
    match i, hi with
    | 1, _ => simp at hp hnd; subst hp hnd; exact ⟨0, _, rfl, by omega, rfl, by simp⟩
    | 2, _ => simp at hp hnd; subst hp hnd; exact ⟨0, _, rfl, by omega, rfl, by simp⟩
    | 3, _ => simp at hp hnd; subst hp hnd; exact ⟨1, _, rfl, by omega, rfl, mem_srt.2 (by simp)⟩
    | n + 4, _ => simp at hp
include hra hrb hrc hab hac hbc in
theorem kCh : Ch (kD r a b c) kP a c ∧ ¬ Ch (kD r a b c) kP b c ∧ coverL (kD r a b c) kP b = [c] := by
  have W := kW hra hrb hrc hab hac hbc
  have H := kSel (r := r) (a := a) (b := b) (c := c)
  obtain ⟨h1, h2, h3, h4⟩ := kAnc hra hrb hrc hab hac hbc
  have sc : SelOf (kD r a b c) kP a c := ⟨3, 1, _, _, rfl, rfl, rfl, rfl, rfl⟩
  have sa : SelOf (kD r a b c) kP r a := ⟨1, 0, _, _, rfl, rfl, rfl, rfl, rfl⟩
  refine ⟨⟨3, 1, _, _, rfl, rfl, rfl, rfl, .step rfl (.refl (by decide))⟩, fun h => ?_, ?_⟩
  · rcases h.inv W H with e | ⟨s, g1, g2⟩
    · exact hbc e
    · rw [SelOf.one W g1 sc] at g2
      rcases g2.inv W H with e | ⟨s, g3, g4⟩
      · exact hab e.symm
      · rw [SelOf.one W g3 sa] at g4
        rcases g4.inv W H with e | ⟨s, g5, _⟩
        · exact hrb e.symm
        · exact h1 s (.one (g5.par H))
  · refine SS_ext (SS_srt _) (by simp [SS]) fun x => ?_
    show x ∈ coverL _ _ b ↔ _
    unfold coverL
    rw [mem_pick, List.mem_singleton]
    constructor
    · rintro ⟨hx, hA, _⟩
      simp [ids] at hx
      rcases hx with rfl | rfl | rfl | rfl
      · exact absurd hA (h1 _)
      · exact absurd ((h2 b).1 hA).symm hrb
      · exact absurd hA (Anc.irrefl W _)
      · rfl
    · rintro rfl
      exact ⟨by simp [ids], (h4 b).2 (.inr (.inl rfl)), a, sc, fun e => hab e.symm, fun e => hrb ((h2 b).1 e).symm⟩
end

section
variable {w w' : World} {K : Value → World → Prop}
theorem knownX_ok (hT : Tab w) (hK : ∀ w', Kept Nil w w' → K (.bool true) w') : Ret Tryd.prog law12_known.id #[] w K := by
  let r := hx 1 (by omega)
  let a := hx 2 (by omega)
  let b := hx 3 (by omega)
  let c := hx 4 (by omega)
  have hra : r ≠ a := hx_inj (by omega)
  have hrb : r ≠ b := hx_inj (by omega)
  have hrc : r ≠ c := hx_inj (by omega)
  have hab : a ≠ b := hx_inj (by omega)
  have hac : a ≠ c := hx_inj (by omega)
  have hbc : b ≠ c := hx_inj (by omega)
  refine law12_known.of ?_
  unfold law12_known.W
  intro w1 w2 w3 w4
  obtain ⟨⟨f1, f2, f3, f4⟩, hr, ha, hb, hc, l1, l2, l3, l4, k⟩ := four w r a b c
  refine ⟨⟨r.2.1, r.2.one, f1⟩, ?_⟩
  intro w7
  refine ⟨⟨a.2.1, a.2.one, f2⟩, ?_⟩
  intro w10
  refine ⟨⟨b.2.1, b.2.one, f3⟩, ?_⟩
  intro w13
  refine ⟨⟨c.2.1, c.2.one, f4⟩, ?_⟩
  intro w16
  replace hr : w16.heap[w.heap.size]? = some (.cells r.1 T_api_Hash (0, 0)) := hr
  replace ha : w16.heap[w1.heap.size]? = some (.cells a.1 T_api_Hash (0, 0)) := ha
  replace hb : w16.heap[w2.heap.size]? = some (.cells b.1 T_api_Hash (0, 0)) := hb
  replace hc : w16.heap[w3.heap.size]? = some (.cells c.1 T_api_Hash (0, 0)) := hc
  replace k : Kept Nil w w16 := k
  replace l1 : w.heap.size < w1.heap.size := l1
  replace l2 : w1.heap.size < w2.heap.size := l2
  replace l3 : w2.heap.size < w3.heap.size := l3
  replace l4 : w3.heap.size < w16.heap.size := l4
  clear f1 f2 f3 f4
  clear_value w16
  clear w13 w10 w7
  clear_value w3
  clear w4
  clear_value w2
  clear_value w1
  have hTl := hT.lt
  have s16 := k.size
  -- what stands when only blocks behind w16 are written
  have box : ∀ {u : World} {S : Nat → Prop}, Kept S w16 u → (∀ k, S k → w16.heap.size ≤ k) → Cells u (⟨w.heap.size, 0, none⟩ : Addr) r.1 ∧ Cells u (⟨w1.heap.size, 0, none⟩ : Addr) a.1 ∧ Cells u (⟨w2.heap.size, 0, none⟩ : Addr) b.1 ∧ Cells u (⟨w3.heap.size, 0, none⟩ : Addr) c.1 := fun ku hS =>
    ⟨Cells.blk (ku.heap hr (fun e => by have := hS _ e; omega)), Cells.blk (ku.heap ha (fun e => by have := hS _ e; omega)), Cells.blk (ku.heap hb (fun e => by have := hS _ e; omega)), Cells.blk (ku.heap hc (fun e => by have := hS _ e; omega))⟩
  refine ⟨r.1, ⟨r.2.1, Cells.blk hr⟩, reach_New_ok r fun w19 x hX19 k19 => ⟨_, rfl, ?_⟩⟩
  obtain ⟨c1, c2, c3, c4⟩ := box k19 (fun _ h => h.elim)
  refine ⟨a.1, ⟨a.2.1, c2⟩, r.1, ⟨r.2.1, c1⟩, r.1, ⟨r.2.1, c1⟩, r.2.1, ?_⟩
  intro w24
  have k24 : Kept Nil w19 w24 := (Kept.refl _ _).alloc _
  have hb24 : HS w24 (some ⟨w19.heap.size, 0, none⟩) 1 [r] := hbox w19 r
  clear_value w24
  have k024 := k19.trans k24 (fun _ _ h => h)
  obtain ⟨e1, e2, e3⟩ := addX_yes (D := [⟨r, []⟩]) (P := [-1]) (h := a) (s := r) (l := [r]) (k1 hra).1 (by simp) (j := 0) (by simp [ids, pos])
  rw [(k1 hra).2] at e2
  refine reach_AddI (hX19.same k24) (by simp) (hT.same (k.trans k024 (fun _ _ h => h))) (fun e => by have := e.1; omega) hb24 (by omega) a r fun w26 S2 F2 hX26 k26 hS2 hF2 => ⟨_, rfl, ?_⟩
  rw [e1]
  rw [e2, e3] at hX26
  replace hX26 : IsX w26 S2 F2 x [⟨r, []⟩, ⟨a, [r]⟩] [-1, 0] := hX26
  refine Split.no rfl ?_
  have s24 := k024.size
  have m2 : ∀ q, S2 q → w16.heap.size ≤ q := fun q h => (hS2 q h).elim (fun h => h.1) (fun h => by omega)
  have k1626 : Kept (fun q => w16.heap.size ≤ q) w16 w26 := (k024.mono (S' := fun q => w16.heap.size ≤ q) (fun _ _ h => h.elim)).trans k26 (fun q _ h => h.1)
  obtain ⟨c1, c2, c3, c4⟩ := box k1626 (fun _ h => h)
  refine ⟨b.1, ⟨b.2.1, c3⟩, r.1, ⟨r.2.1, c1⟩, r.1, ⟨r.2.1, c1⟩, r.2.1, ?_⟩
  intro w31
  have k31 : Kept Nil w26 w31 := (Kept.refl _ _).alloc _
  have hb31 : HS w31 (some ⟨w26.heap.size, 0, none⟩) 1 [r] := hbox w26 r
  clear_value w31
  have k1631 := k1626.trans k31 (fun _ _ h => h.elim)
  obtain ⟨e1, e2, e3⟩ := addX_yes (D := [⟨r, []⟩, ⟨a, [r]⟩]) (P := [-1, 0]) (h := b) (s := r) (l := [r]) (k2 hrb hab).1 (by simp) (j := 0) (by simp [ids, pos])
  rw [(k2 hrb hab).2] at e2
  refine reach_AddI (hX26.same k31) (by simp) ((hT.same k).keep k1631 (fun e => by omega)) (fun e => by have := m2 _ e; omega) hb31 (by omega) b r fun w33 S3 F3 hX33 k33 hS3 hF3 => ⟨_, rfl, ?_⟩
  rw [e1]
  rw [e2, e3] at hX33
  replace hX33 : IsX w33 S3 F3 x [⟨r, []⟩, ⟨a, [r]⟩, ⟨b, [r]⟩] [-1, 0, 0] := hX33
  refine Split.no rfl ?_
  have s31 := k1631.size
  have m3 : ∀ q, S3 q → w16.heap.size ≤ q := fun q h => (hS3 q h).elim (m2 q) (fun h => by omega)
  have k1633 : Kept (fun q => w16.heap.size ≤ q) w16 w33 := k1631.trans k33 (fun q _ h => m2 q h)
  obtain ⟨c1, c2, c3, c4⟩ := box k1633 (fun _ h => h)
  refine ⟨c.1, ⟨c.2.1, c4⟩, a.1, ⟨a.2.1, c2⟩, a.1, ⟨a.2.1, c2⟩, b.1, ⟨b.2.1, c3⟩, a.2.1, b.2.1, ?_⟩
  intro w39
  have k39 : Kept Nil w33 w39 := (Kept.refl _ _).alloc _
  have hb39 : HS w39 (some ⟨w33.heap.size, 0, none⟩) 2 [a, b] := HS.lay (l := [a, b]) (t := T_api_Hash) (new_blk w33 (.cells (hcells [a, b]).toArray T_api_Hash))
  clear_value w39
  have k1639 := k1633.trans k39 (fun _ _ h => h.elim)
  obtain ⟨e1, e2, e3⟩ := addX_yes (D := [⟨r, []⟩, ⟨a, [r]⟩, ⟨b, [r]⟩]) (P := [-1, 0, 0]) (h := c) (s := a) (l := [a, b]) (k3 hrc hab hac hbc).1 (by simp) (j := 1) (by simp [ids, pos]; exact fun e => absurd e.symm hra)
  rw [(k3 hrc hab hac hbc).2] at e2
  refine reach_AddI (hX33.same k39) (by simp) ((hT.same k).keep k1639 (fun e => by omega)) (fun e => by have := m3 _ e; omega) hb39 (by omega) c a fun w41 S4 F4 hX41 k41 hS4 hF4 => ⟨_, rfl, ?_⟩
  rw [e1]
  rw [e2, e3] at hX41
  replace hX41 : IsX w41 S4 F4 x (kD r a b c) kP := hX41
  refine Split.no rfl ?_
  have k1641 : Kept (fun q => w16.heap.size ≤ q) w16 w41 := k1639.trans k41 (fun q _ h => m3 q h)
  obtain ⟨q1, q2, q3⟩ := kCh hra hrb hrc hab hac hbc
  obtain ⟨_, _, _, hA4⟩ := kAnc hra hrb hrc hab hac hbc
  have kw41 : Kept Nil w w41 := k.trans k1641 (fun q hq e => by omega)
  have hX : ∀ {v : World}, Kept Nil w41 v → IsX v S4 F4 x (kD r a b c) kP := fun k => hX41.same k
  obtain ⟨c1, c2, c3, c4⟩ := box k1641 (fun _ h => h)
  obtain ⟨m, hV, _⟩ := hX (Kept.refl _ _)
  refine ⟨b.1, ⟨b.2.1, c3⟩, reach_Cover hV (by simp) b (fun w' hn _ => absurd (by simp [ids]) hn) fun A45 c45 w45 _ row45 k45 => ⟨A45, _, c45, 0, rfl, ?_⟩⟩
  rw [q3] at row45 ⊢
  intro w48
  have k48 : Kept Nil w45 w48 := (Kept.refl _ _).drew
  have row48 : HRow w48 w41.heap.size A45 1 c45 [c] := Row.keep row45 k48 (fun _ _ h => h)
  clear_value w48
  have k4148 := k45.trans k48 (fun _ _ h => h)
  have bx : ∀ {u : World}, Kept Nil w41 u → Cells u (⟨w1.heap.size, 0, none⟩ : Addr) a.1 ∧ Cells u (⟨w2.heap.size, 0, none⟩ : Addr) b.1 ∧ Cells u (⟨w3.heap.size, 0, none⟩ : Addr) c.1 := fun k => (box (k1641.trans k (fun _ _ h => h.elim)) (fun _ h => h)).2
  refine Split.yes rfl (Split.yes rfl (row48.hs.load (i := 0) (by omega) rfl ⟨c.1, ⟨c.2.1, (bx k4148).2.2⟩, ⟨c.2.ints, c.2.ints⟩, ?_⟩))
  rw [sameInts_eq]
  refine Split.yes (decide_eq_true rfl) ⟨b.1, ⟨b.2.1, (bx k4148).2.1⟩, c.1, ⟨c.2.1, (bx k4148).2.2⟩, reach_Before (hV.same k4148) (by simp) b c fun w55 t ht k55 => ⟨t, rfl, ?_⟩⟩
  have k4155 := k4148.trans k55 (fun _ _ h => h)
  refine Split.yes (ht.2 ((hA4 b).2 (.inr (.inl rfl)))) ⟨b.1, ⟨b.2.1, (bx k4155).2.1⟩, c.1, ⟨c.2.1, (bx k4155).2.2⟩, reach_Chain (hV.same k4155) b c fun w60 t2 ht2 k60 => ⟨t2, rfl, ?_⟩⟩
  have k4160 := k4155.trans k60 (fun _ _ h => h)
  have e2 : t2 = false := by
    cases t2 with
    | false => rfl
    | true => exact absurd (ht2.1 rfl) q2
  subst e2
  refine Split.yes rfl ⟨a.1, ⟨a.2.1, (bx k4160).1⟩, c.1, ⟨c.2.1, (bx k4160).2.2⟩, reach_Chain (hV.same k4160) a c fun w65 t3 ht3 k65 => ⟨t3, rfl, ?_⟩⟩
  rw [ht3.2 q1]
  exact hK w65 (kw41.trans (k4160.trans k65 (fun _ _ h => h)) (fun _ _ h => h))
end
end Go.Proofs.YtgfkpemnkmebkaaDoor
/-
  same: both indexes say the same of who stands ahead of whom, on whose chain.
-/
namespace Go.Proofs.YtgfkpemnkmebkaaDoor
open Go Go.Lite Go.RowKit

section
variable {w w' : World} {S F FR : Nat → Prop} {x r : Nat} {D : DG} {P : List Int} {m : XM} {K : Value → World → Prop}
end
end Go.Proofs.YtgfkpemnkmebkaaDoor
/-
  Next and Fork of the index.
-/
namespace Go.Proofs.YtgfkpemnkmebkaaDoor
open Go Go.Lite Go.RowKit
open Tr (Und ints)

/-! chains, plainly -/
section
variable {D : DG} {P : List Int}
end

/-! the program's -/
section
variable {w w' : World} {F : Nat → Prop} {x : Nat} {D : DG} {P : List Int} {m : XM} {K : Value → World → Prop}
end
end Go.Proofs.YtgfkpemnkmebkaaDoor
/-
  The walk of ReachNil: an index that is not there, and a zero one.
-/
namespace Go.Proofs.YtgfkpemnkmebkaaDoor
open Go Go.Lite Go.RowKit

/-- an index that is not there, or a zero one -/
def NoX (w : World) (p : Option Addr) : Prop := p = none ∨ ∃ b, p = some ⟨b, 0, none⟩ ∧ w.heap[b]? = some (.cells #[.pointer none, .pointer none, .map none, .slice none 0 0, .map none] T_reach_Index (0, 0))
section
variable {w w' : World} {p : Option Addr} {K : Value → World → Prop}
theorem NoX.same (h : NoX w p) (k : Kept Nil w w') : NoX w' p := by
  rcases h with h | ⟨b, h1, h2⟩
  · exact .inl h
  · exact .inr ⟨b, h1, k.heap h2 (fun h => h)⟩
theorem nox_there (h : NoX w p) (hK : K (.bool false) w) : Ret Tryd.prog reach_Index_there.id #[.pointer p] w K := by
  rcases h with rfl | ⟨b, rfl, hb⟩
  · exact reach_Index_there.of (Split.no rfl hK)
  · exact reach_Index_there.of (Split.yes rfl (Is.mk rfl ⟨none, by rw [add_at, cell_blk hb]; rfl, hK⟩))
theorem nox_has (h : NoX w p) {A : Option Addr} {n c : Nat} (hK : ∀ w', Kept Nil w w' → K (.bool false) w') : Ret Tryd.prog reach_Index_has.id #[.pointer p, .slice A n c] w K := by
  refine reach_Index_has.of ?_
  unfold reach_Index_has.W
  intro w3
  have k3 : Kept Nil w w3 := (Kept.refl _ _).alloc _
  have hb3 : w3.heap[w.heap.size]? = some (.cells #[.pointer p] T_p_reach_Index (0, 0)) := new_blk w _
  clear_value w3
  exact ⟨p, by rw [cell_blk hb3]; rfl, nox_there (h.same k3) ⟨false, rfl, Split.no rfl (hK w3 k3)⟩⟩
theorem nox_Graph (h : NoX w p) (hK : K (.pointer none) w) : Ret Tryd.prog reach_Index_Graph.id #[.pointer p] w K := by
  rcases h with rfl | ⟨b, rfl, hb⟩
  · exact reach_Index_Graph.of (Split.yes rfl hK)
  · exact reach_Index_Graph.of (Split.no rfl (Is.mk rfl ⟨none, by rw [add_at, cell_blk hb]; rfl, hK⟩))
theorem nox_Dealt (h : NoX w p) (hK : K (.int .i64 0) w) : Ret Tryd.prog reach_Index_Dealt.id #[.pointer p] w K := by
  rcases h with rfl | ⟨b, rfl, hb⟩
  · exact reach_Index_Dealt.of (Split.yes rfl hK)
  · exact reach_Index_Dealt.of (Split.no rfl (Is.mk rfl ⟨none, by rw [add_at, cell_blk hb]; rfl, Tr.nil_Dealt (.inl rfl) ⟨0, rfl, hK⟩⟩))
theorem nox_Copy (h : NoX w p) (hK : K (.pointer none) w) : Ret Tryd.prog reach_Index_Copy.id #[.pointer p] w K :=
  reach_Index_Copy.of (nox_there h ⟨false, rfl, Split.yes rfl hK⟩)
theorem nox_Chain (h : NoX w p) (a b : HT) (hK : ∀ w', Kept Nil w w' → K (.bool false) w') : Ret Tryd.prog reach_Index_Chain.id #[.pointer p, .agg a.1, .agg b.1] w K := by
  refine reach_Index_Chain.of ?_
  unfold reach_Index_Chain.W
  intro w4 w5 w6
  have k4 : Kept Nil w w4 := (Kept.refl _ _).alloc _
  have ha4 : w4.heap[w.heap.size]? = some (.cells a.1 T_api_Hash (0, 0)) := new_blk w _
  have k5 : Kept Nil w4 w5 := (Kept.refl _ _).alloc _
  have hb5 : w5.heap[w4.heap.size]? = some (.cells b.1 T_api_Hash (0, 0)) := new_blk w4 _
  have k6 : Kept Nil w5 w6 := (Kept.refl _ _).drew
  clear_value w6
  have ha6 := (k5.trans k6 (fun _ _ h => h)).heap ha4 (fun h => h)
  have hb6 := k6.heap hb5 (fun h => h)
  have k06 := (k4.trans k5 (fun _ _ h => h)).trans k6 (fun _ _ h => h)
  refine ⟨a.1, ⟨a.2.1, Cells.blk ha6⟩, b.1, ⟨b.2.1, Cells.blk hb6⟩, a.2.1, b.2.1, ?_⟩
  intro w9
  have k9 : Kept Nil w6 w9 := (Kept.refl _ _).alloc _
  clear_value w9
  have k09 := k06.trans k9 (fun _ _ h => h)
  exact nox_has (h.same k09) fun w11 k11 => ⟨false, rfl, Split.no rfl (hK w11 (k09.trans k11 (fun _ _ h => h)))⟩
theorem nox_Before (h : NoX w p) (a b : HT) (hK : ∀ w', Kept Nil w w' → K (.bool false) w') : Ret Tryd.prog reach_Index_Before.id #[.pointer p, .agg a.1, .agg b.1] w K := by
  refine reach_Index_Before.of ?_
  unfold reach_Index_Before.W
  intro w4 w5 w6
  have k4 : Kept Nil w w4 := (Kept.refl _ _).alloc _
  have hx4 : w4.heap[w.heap.size]? = some (.cells #[.pointer p] T_p_reach_Index (0, 0)) := new_blk w _
  have k5 : Kept Nil w4 w5 := (Kept.refl _ _).alloc _
  have ha5 : w5.heap[w4.heap.size]? = some (.cells a.1 T_api_Hash (0, 0)) := new_blk w4 _
  have k6 : Kept Nil w5 w6 := (Kept.refl _ _).alloc _
  have hb6 : w6.heap[w5.heap.size]? = some (.cells b.1 T_api_Hash (0, 0)) := new_blk w5 _
  clear_value w6
  have ha6 := k6.heap ha5 (fun h => h)
  have hx6 := (k5.trans k6 (fun _ _ h => h)).heap hx4 (fun h => h)
  have k06 := (k4.trans k5 (fun _ _ h => h)).trans k6 (fun _ _ h => h)
  refine ⟨p, by rw [cell_blk hx6]; rfl, a.1, ⟨a.2.1, Cells.blk ha6⟩, b.1, ⟨b.2.1, Cells.blk hb6⟩, a.2.1, b.2.1, ?_⟩
  intro w10
  have k10 : Kept Nil w6 w10 := (Kept.refl _ _).alloc _
  clear_value w10
  have k010 := k06.trans k10 (fun _ _ h => h)
  exact nox_has (h.same k010) fun w12 k12 => ⟨false, rfl, Split.yes rfl (hK w12 (k010.trans k12 (fun _ _ h => h)))⟩
theorem nox_Cover (h : NoX w p) (a : HT) (hK : ∀ w', Kept Nil w w' → K (.tuple #[.slice none 0 0, .int .i64 1]) w') : Ret Tryd.prog reach_Index_Cover.id #[.pointer p, .agg a.1] w K := by
  refine reach_Index_Cover.of ?_
  unfold reach_Index_Cover.W
  intro w3
  have k3 : Kept Nil w w3 := (Kept.refl _ _).alloc _
  clear_value w3
  exact nox_there (h.same k3) ⟨false, rfl, Split.yes rfl (hK w3 k3)⟩
theorem nox_Selected (h : NoX w p) (a : HT) (hK : ∀ w', Kept Nil w w' → K (.tuple #[.agg hnull.1, .int .i64 1]) w') : Ret Tryd.prog reach_Index_Selected.id #[.pointer p, .agg a.1] w K := by
  refine reach_Index_Selected.of ?_
  unfold reach_Index_Selected.W
  intro w3 w4
  have k3 : Kept Nil w w3 := (Kept.refl _ _).alloc _
  have k4 : Kept Nil w3 w4 := (Kept.refl _ _).alloc _
  have hr4 : w4.heap[w3.heap.size]? = some (.cells hnull.1 T_api_Hash (0, 0)) := new_blk w3 _
  clear_value w4
  have s3 := k3.size
  have k04 := k3.trans k4 (fun _ _ h => h)
  obtain ⟨t1, t2, t3⟩ := hash_set hnull hr4 rfl
  exact nox_there (h.same k04) ⟨false, rfl, Split.yes rfl ⟨t1, hnull.1, ⟨hnull.2.1, Cells.blk t2⟩, hK _ (k04.trans t3 (fun k hk e => by omega))⟩⟩
theorem nox_Next (h : NoX w p) (a b : HT) (hK : ∀ w', Kept Nil w w' → K (.tuple #[.agg hnull.1, .int .i64 1]) w') : Ret Tryd.prog reach_Index_Next.id #[.pointer p, .agg a.1, .agg b.1] w K := by
  refine reach_Index_Next.of ?_
  unfold reach_Index_Next.W
  intro w4 w5 w6 w7
  have k4 : Kept Nil w w4 := (Kept.refl _ _).alloc _
  have hx4 : w4.heap[w.heap.size]? = some (.cells #[.pointer p] T_p_reach_Index (0, 0)) := new_blk w _
  have k5 : Kept Nil w4 w5 := (Kept.refl _ _).alloc _
  have k6 : Kept Nil w5 w6 := (Kept.refl _ _).alloc _
  have k7 : Kept Nil w6 w7 := (Kept.refl _ _).alloc _
  have hr7 : w7.heap[w6.heap.size]? = some (.cells hnull.1 T_api_Hash (0, 0)) := new_blk w6 _
  clear_value w7
  have k47 := (k5.trans k6 (fun _ _ h => h)).trans k7 (fun _ _ h => h)
  have hx7 := k47.heap hx4 (fun h => h)
  have k06 := (k4.trans k5 (fun _ _ h => h)).trans k6 (fun _ _ h => h)
  have k07 := k06.trans k7 (fun _ _ h => h)
  have s6 := k06.size
  obtain ⟨t1, t2, t3⟩ := hash_set hnull hr7 rfl
  exact ⟨p, by rw [cell_blk hx7]; rfl, nox_there (h.same k07) ⟨false, rfl, Split.yes rfl ⟨t1, hnull.1, ⟨hnull.2.1, Cells.blk t2⟩, hK _ (k07.trans t3 (fun k hk e => by omega))⟩⟩⟩
theorem nox_Fork (h : NoX w p) (a b : HT) (hK : ∀ w', Kept Nil w w' → K (.tuple #[.agg hnull.1, .int .i64 1]) w') : Ret Tryd.prog reach_Index_Fork.id #[.pointer p, .agg a.1, .agg b.1] w K := by
  refine reach_Index_Fork.of ?_
  unfold reach_Index_Fork.W
  intro w4 w5 w6 w7 w8
  have k4 : Kept Nil w w4 := (Kept.refl _ _).alloc _
  have hx4 : w4.heap[w.heap.size]? = some (.cells #[.pointer p] T_p_reach_Index (0, 0)) := new_blk w _
  have k5 : Kept Nil w4 w5 := (Kept.refl _ _).alloc _
  have k6 : Kept Nil w5 w6 := (Kept.refl _ _).alloc _
  have k7 : Kept Nil w6 w7 := (Kept.refl _ _).alloc _
  have hr7 : w7.heap[w6.heap.size]? = some (.cells hnull.1 T_api_Hash (0, 0)) := new_blk w6 _
  have k8 : Kept Nil w7 w8 := (Kept.refl _ _).alloc _
  have he8 : w8.heap[w7.heap.size]? = some (.cells #[.int .i64 0] T_api_Errno (0, 0)) := new_blk w7 _
  clear_value w8
  have hr8 := k8.heap hr7 (fun h => h)
  have k48 := ((k5.trans k6 (fun _ _ h => h)).trans k7 (fun _ _ h => h)).trans k8 (fun _ _ h => h)
  have hx8 := k48.heap hx4 (fun h => h)
  have k06 := (k4.trans k5 (fun _ _ h => h)).trans k6 (fun _ _ h => h)
  have k07 := k06.trans k7 (fun _ _ h => h)
  have k08 := k07.trans k8 (fun _ _ h => h)
  have s6 := k06.size
  have s7 := k07.size
  have l7 := lt_blk hr7
  obtain ⟨t1, t2, t3⟩ := hash_set hnull hr8 rfl
  have he := t3.heap he8 (by omega)
  refine ⟨p, by rw [cell_blk hx8]; rfl, nox_there (h.same k08) ⟨false, rfl, Split.yes rfl ⟨t1, wr_blk he (by simp), ?_⟩⟩⟩
  intro w16
  have h6 : w16.heap[w6.heap.size]? = some (.cells hnull.1 T_api_Hash (0, 0)) := by
    show (World.setCell _ _ _).heap[w6.heap.size]? = _
    rw [set_other (by omega)]
    exact t2
  have h7 : w16.heap[w7.heap.size]? = some (.cells #[.int .i64 1] T_api_Errno (0, 0)) := set_blk he 0 _
  have k16 : Kept (fun k => k = w6.heap.size ∨ k = w7.heap.size) w8 w16 := (t3.mono (fun _ _ h => .inl h)).trans (Kept.setCell (S := fun k => k = w6.heap.size ∨ k = w7.heap.size) (Kept.refl _ _) (p := ⟨w7.heap.size, 0, none⟩) (fun _ => .inr rfl) _) (fun _ _ h => h)
  clear_value w16
  exact ⟨hnull.1, ⟨hnull.2.1, Cells.blk h6⟩, 1, by rw [cell_blk h7]; rfl, hK w16 (k08.trans k16 (fun k hk e => by omega))⟩
theorem nox_Add (h : NoX w p) (a s : HT) {A : Option Addr} {n c : Nat} (hK : ∀ w', Kept Nil w w' → K (.int .i64 1) w') : Ret Tryd.prog reach_Index_Add.id #[.pointer p, .agg a.1, .agg s.1, .slice A n c] w K := by
  refine reach_Index_Add.of ?_
  unfold reach_Index_Add.W
  intro w5 w6
  have k5 : Kept Nil w w5 := (Kept.refl _ _).alloc _
  have k6 : Kept Nil w5 w6 := (Kept.refl _ _).alloc _
  clear_value w6
  have k06 := k5.trans k6 (fun _ _ h => h)
  exact nox_there (h.same k06) ⟨false, rfl, Split.yes rfl (hK w6 k06)⟩
theorem nox_Up (a : HT) (hK : ∀ w' pb qb, Kept Nil w w' → w'.heap[pb]? = some (.cells #[.pointer p] T_p_reach_Index (0, 0)) → w'.heap[qb]? = some (.cells a.1 T_api_Hash (0, 0)) → w.heap.size ≤ pb → w.heap.size ≤ qb → K (.func (.func reach_Index_Up_fn1.id) #[] #[.pointer (some ⟨pb, 0, none⟩), .pointer (some ⟨qb, 0, none⟩)]) w') :
    Ret Tryd.prog reach_Index_Up.id #[.pointer p, .agg a.1] w K := by
  refine reach_Index_Up.of ?_
  unfold reach_Index_Up.W
  intro w3 w4
  have k3 : Kept Nil w w3 := (Kept.refl _ _).alloc _
  have hp3 : w3.heap[w.heap.size]? = some (.cells #[.pointer p] T_p_reach_Index (0, 0)) := new_blk w _
  have k4 : Kept Nil w3 w4 := (Kept.refl _ _).alloc _
  have hq4 : w4.heap[w3.heap.size]? = some (.cells a.1 T_api_Hash (0, 0)) := new_blk w3 _
  clear_value w4
  exact hK w4 _ _ (k3.trans k4 (fun _ _ h => h)) (k4.heap hp3 (fun h => h)) hq4 (Nat.le_refl _) k3.size
theorem nox_iter {pb qb : Nat} {a : HT} :
    Iterates Tryd.prog reach_Index_Up_fn1.id #[] #[.pointer (some ⟨pb, 0, none⟩), .pointer (some ⟨qb, 0, none⟩)] (([] : List HT).map encH) (fun w => NoX w p ∧ w.heap[pb]? = some (.cells #[.pointer p] T_p_reach_Index (0, 0)) ∧ w.heap[qb]? = some (.cells a.1 T_api_Hash (0, 0))) := by
  intro y I Q w0 hI hQ hpre h0 hround
  obtain ⟨hX, hp0, hq0⟩ := hpre 0 w0 h0
  refine reach_Index_Up_fn1.of ?_
  unfold reach_Index_Up_fn1.W
  refine ⟨_, by rw [cell_blk hp0]; rfl, a.1, ⟨a.2.1, Cells.blk hq0⟩, a.2.1, ?_⟩
  intro w6
  have k6 : Kept Nil w0 w6 := (Kept.refl _ _).alloc _
  clear_value w6
  exact nox_has (hX.same k6) fun w8 k8 => ⟨false, rfl, Split.yes rfl (.inl (hI 0 w0 w8 h0 (k6.trans k8 (fun _ _ h => h))))⟩
theorem nilX_ok (hT : Tab w) (hK : ∀ w', Kept Nil w w' → K (.bool true) w') : Ret Tryd.prog law12_ReachNil.id #[] w K := by
  refine law12_ReachNil.of ?_
  unfold law12_ReachNil.W
  intro w1 w2 w3
  have k1 : Kept Nil w w1 := (Kept.refl _ _).alloc _
  have hr1 : w1.heap[w.heap.size]? = some (.cells #[.bool false] T_bool (0, 0)) := new_blk w _
  have k2 : Kept Nil w1 w2 := (Kept.refl _ _).alloc _
  have hz2 : w2.heap[w1.heap.size]? = some (.cells #[.pointer none, .pointer none, .map none, .slice none 0 0, .map none] T_reach_Index (0, 0)) := new_blk w1 _
  have k3 : Kept Nil w2 w3 := (Kept.refl _ _).alloc _
  have hl3 : w3.heap[w2.heap.size]? = some (.cells #[.pointer none, .pointer (some ⟨w1.heap.size, 0, none⟩)] T_p_reach_Index (0, 0)) := new_blk w2 _
  clear_value w3
  have hz3 := k3.heap hz2 (fun h => h)
  have hr3 := k3.heap (k2.heap hr1 (fun h => h)) (fun h => h)
  have k03 := (k1.trans k2 (fun _ _ h => h)).trans k3 (fun _ _ h => h)
  have l1 := lt_blk hr1
  clear_value w2 w1
  have l3 := lt_blk hr3
  refine Holds.mark0 rfl ?_
  refine law12_ReachNil.loop1 (I := fun s v => ∃ (t : Nat) (Ms : List Nat), s = ((t : Int), marksA Ms) ∧ t ≤ 2 ∧ Kept Nil w3 v ∧ Ms.Nodup ∧ ∀ E ∈ Ms, w3.heap.size ≤ E ∧ v.heap[E]? = some (.deferred (some []))) (μ := fun s _ => (2 - s.1).toNat) (s := (0, #[])) ⟨0, [], rfl, by omega, Kept.refl _ _, List.Pairwise.nil, by simp⟩ ?_
  rintro s v ⟨t, Ms, rfl, ht, kv, hnd, hMs⟩
  have k0v : Kept Nil w v := k03.trans kv (fun _ _ h => h)
  have sv := kv.size
  refine Split.dec (fun hil0 => ?_) (fun hge => ?_)
  · simp only at hil0
    obtain ⟨p, hp, hno⟩ : ∃ p, v.cell? ((⟨w2.heap.size, 0, none⟩ : Addr).add (((t : Int).toNat) * 1)) = some (.pointer p) ∧ NoX v p := by
      have hlv := kv.heap hl3 (fun h => h)
      rcases (show t = 0 ∨ t = 1 by omega) with rfl | rfl
      · exact ⟨none, by rw [add_at, cell_blk hlv]; rfl, .inl rfl⟩
      · exact ⟨some ⟨w1.heap.size, 0, none⟩, by rw [add_at, cell_blk hlv]; rfl, .inr ⟨_, rfl, kv.heap hz3 (fun h => h)⟩⟩
    refine ⟨⟨by omega, by omega⟩, Is.mk rfl ⟨p, hp, ?_⟩⟩
    intro w10
    obtain ⟨hwr, hbx, hkx⟩ := box_set (w := v) (z := hnull.1) (cs := hnull.1) (t := T_api_Hash) rfl
    refine ⟨⟨hnull.2.1, hnull.2.one, fun j hj => hwr j hj⟩, ?_⟩
    intro w13
    replace hbx : w13.heap[v.heap.size]? = some (.cells hnull.1 T_api_Hash (0, 0)) := hbx
    replace hkx : Kept Nil v w13 := hkx
    clear_value w13
    have hc : ∀ {u : World}, Kept Nil w13 u → hnull.1.size = 32 ∧ Cells u (⟨v.heap.size, 0, none⟩ : Addr) hnull.1 := fun k => ⟨hnull.2.1, Cells.blk (k.heap hbx (fun h => h))⟩
    have hN : ∀ {u : World}, Kept Nil w13 u → NoX u p := fun k => (hno.same hkx).same k
    have bx : ∀ (u : World) (s : HT), (s.1.size = 32 ∧ (∀ c ∈ s.1.toList, c.oneCell' = true) ∧ ∀ j, j < 32 → Wr (u.alloc (.cells hnull.1 T_api_Hash)) ((⟨u.heap.size, 0, none⟩ : Addr).add j)) ∧ Kept Nil u (setCells (u.alloc (.cells hnull.1 T_api_Hash)) (⟨u.heap.size, 0, none⟩ : Addr) s.1.toList 0) := fun u s => by
      obtain ⟨g1, _, g3⟩ := box_set (w := u) (z := hnull.1) (cs := s.1) (t := T_api_Hash) (by rw [s.2.1]; rfl)
      exact ⟨⟨s.2.1, s.2.one, fun j hj => g1 j (by rw [s.2.1]; exact hj)⟩, g3⟩
    have kz := Kept.refl Nil w13
    refine ⟨hnull.1, hc kz, nox_Selected (hN kz) hnull fun w16 k16 => ⟨hnull.1, 1, rfl, ?_⟩⟩
    intro w19
    obtain ⟨b1, b2⟩ := bx w16 hnull
    refine ⟨b1, ?_⟩
    intro w22
    have k22 : Kept Nil w13 w22 := k16.trans b2 (fun _ _ h => h)
    clear_value w22
    refine ⟨hnull.1, hc k22, nox_Cover (hN k22) hnull fun w25 k25 => ⟨none, 0, 0, 1, rfl, ?_⟩⟩
    have q25 := k22.trans k25 (fun _ _ h => h)
    refine ⟨hnull.1, hc q25, hnull.1, hc q25, nox_Next (hN q25) hnull hnull fun w31 k31 => ⟨hnull.1, 1, rfl, ?_⟩⟩
    intro w34
    obtain ⟨b1, b2⟩ := bx w31 hnull
    refine ⟨b1, ?_⟩
    intro w37
    have k37 : Kept Nil w13 w37 := (q25.trans k31 (fun _ _ h => h)).trans b2 (fun _ _ h => h)
    clear_value w37
    refine ⟨hnull.1, hc k37, hnull.1, hc k37, nox_Fork (hN k37) hnull hnull fun w41 k41 => ⟨hnull.1, 1, rfl, ?_⟩⟩
    intro w44
    obtain ⟨b1, b2⟩ := bx w41 hnull
    refine ⟨b1, ?_⟩
    intro w47
    have k47 : Kept Nil w13 w47 := (k37.trans k41 (fun _ _ h => h)).trans b2 (fun _ _ h => h)
    clear_value w47
    refine ⟨hnull.1, hc k47, nox_Up hnull fun w50 pb qb k50 hp50 hq50 hpb hqb => ⟨_, rfl, .inr ⟨_, _, _, rfl⟩, Split.no rfl ?_⟩⟩
    have q50 := k47.trans k50 (fun _ _ h => h)
    have s13 := hkx.size
    have s50 := q50.size
    let fnv : Value := .func (.func reach_Index_Up_fn1.id) #[] #[.pointer (some ⟨pb, 0, none⟩), .pointer (some ⟨qb, 0, none⟩)]
    let ρ0 : Env := [(0, .pointer (some ⟨w.heap.size, 0, none⟩)), (2, .slice (some ⟨w2.heap.size, 0, none⟩) 2 2), (3, .int .i64 (t : Int)), (4, .pointer p), (5, .pointer (some ⟨v.heap.size, 0, none⟩)), (7, .int .i64 1), (9, .int .i64 1), (11, .int .i64 1), (13, .int .i64 1), (58, fnv)]
    let J : Nat → World → Prop := fun j u => Kept Nil w50 u
    change Holds none [] Tryd.prog _ _ _ (ρ0 ++ [(dkey, .agg (marksA Ms))]) w50
    refine range_iter (n := 111) (ρ := ρ0 ++ [(dkey, .agg (marksA Ms))]) (ρ0 := ρ0) ng mix law12_ReachNil.k (t := 58) (ps := #[59]) (by kernel_rfl) (by decide) rfl reach_Index_Up_fn1.at_ rfl (.inr ⟨_, rfl⟩) (fun i x hi hx => (find_snoc (ρ := ρ0) (.agg (marksA Ms)) hi).trans hx) rfl encH ([] : List HT) (fun _ => rfl) (fun q hq => by
        have e49 : q = 59 := by simpa using hq
        subst e49
        exact ⟨by decide, by decide⟩) (nox_iter (p := p) (pb := pb) (qb := qb) (a := hnull)) J (fun _ _ => False) ?_ (fun _ _ _ _ _ h => h.elim) (fun j u h => ⟨hN (q50.trans h (fun _ _ h => h)), Kept.heap h hp50 (fun h => h), Kept.heap h hq50 (fun h => h)⟩) ?_ ?_ ?_ (fun _ _ h => h.elim) (fun _ _ _ h => h.elim)
    · rintro j u1 u2 R hlv h1 hk'
      exact Kept.trans h1 hk' (fun k hk e => by omega)
    · intro R
      exact (((Kept.refl _ _).alloc _).alloc _)
    · rintro j z u1 R hz _ hlv
      simp at hz
    · rintro u R h1 hlv
      have e7 : addMark (ρ0 ++ [(dkey, .agg (marksA Ms))]) w50.heap.size = [(0, .pointer (some ⟨w.heap.size, 0, none⟩)), (2, .slice (some ⟨w2.heap.size, 0, none⟩) 2 2), (3, .int .i64 (t : Int)), (4, .pointer p), (5, .pointer (some ⟨v.heap.size, 0, none⟩)), (7, .int .i64 1), (9, .int .i64 1), (11, .int .i64 1), (13, .int .i64 1), (58, fnv), (4294967296, .agg (marksA (w50.heap.size :: Ms)))] := rfl
      rw [e7, law12_ReachNil.z1_normal _ _ _ _ _ _ _ _ _ _ _ _ #[]]
      have hmk : u.heap[w50.heap.size]? = some (.deferred (some [])) := hlv.mark
      have q : Kept Nil w13 u := q50.trans h1 (fun _ _ h => h)
      clear hlv e7
      unfold law12_ReachNil.Z1_normal
      refine ⟨hnull.1, hc q, hnull.1, hc q, hnull.1, hc q, hnull.2.1, ?_⟩
      intro w89
      have k89 : Kept Nil u w89 := (Kept.refl _ _).alloc _
      clear_value w89
      refine nox_Add (hN (q.trans k89 (fun _ _ h => h))) hnull hnull fun w91 k91 => ⟨1, rfl, Split.no rfl ?_⟩
      have u91 := k89.trans k91 (fun _ _ h => h)
      have q91 := q.trans u91 (fun _ _ h => h)
      refine ⟨hnull.1, hc q91, hnull.1, hc q91, nox_Chain (hN q91) hnull hnull fun w97 k97 => ⟨false, rfl, Split.no rfl ?_⟩⟩
      have u97 := u91.trans k97 (fun _ _ h => h)
      have q97 := q.trans u97 (fun _ _ h => h)
      refine ⟨hnull.1, hc q97, hnull.1, hc q97, nox_Before (hN q97) hnull hnull fun w103 k103 => ⟨false, rfl, Split.no rfl (Split.no rfl (Split.no rfl (Split.no rfl (Split.no rfl ?_))))⟩⟩
      have u103 := u97.trans k103 (fun _ _ h => h)
      have q103 := q.trans u103 (fun _ _ h => h)
      refine nox_Graph (hN q103) ⟨none, rfl, Split.no rfl ?_⟩
      refine nox_Dealt (hN q103) ⟨0, rfl, Split.no rfl ?_⟩
      refine nox_Copy (hN q103) ⟨none, rfl, Split.no rfl ?_⟩
      rw [wrapP (n := (t : Int)) (by omega) (by omega)]
      have kvu : Kept Nil v w103 := hkx.trans q103 (fun _ _ h => h)
      refine ⟨((t : Int) + 1, marksA (w50.heap.size :: Ms)), rfl, ⟨t + 1, w50.heap.size :: Ms, rfl, by omega, kv.trans kvu (fun _ _ h => h), ?_, fun E hE => ?_⟩, by simp only; omega⟩
      · rw [List.nodup_cons]
        refine ⟨fun hE => ?_, hnd⟩
        have := lt_blk (hMs _ hE).2
        omega
      · rcases List.mem_cons.1 hE with rfl | hE
        · exact ⟨by omega, u103.heap hmk (fun h => h)⟩
        · exact ⟨(hMs E hE).1, kvu.heap (hMs E hE).2 (fun h => h)⟩
  · simp only at hge
    rw [roundQ_exit, law12_ReachNil.x1_0]
    unfold law12_ReachNil.X1_0
    have hrv := kv.heap hr3 (fun h => h)
    refine knownX_ok (hT.same k0v) fun w58 k58 => ⟨true, rfl, ?_⟩
    have hr58 := k58.heap hrv (fun h => h)
    refine ⟨wr_blk hr58 (by simp), ?_⟩
    intro w60
    have k60 : Kept (· = w.heap.size) w58 w60 := Kept.setCell (S := fun k => k = w.heap.size) (Kept.refl _ w58) (p := ⟨w.heap.size, 0, none⟩) (fun _ => rfl) _
    have hr60 : w60.heap[w.heap.size]? = some (.cells #[.bool true] T_bool (0, 0)) := set_blk hr58 0 _
    clear_value w60
    rw [marksOf_A]
    have hm60 : ∀ E ∈ Ms, w60.heap[E]? = some (.deferred (some [])) := fun E hE => k60.heap (k58.heap (hMs E hE).2 (fun h => h)) (by have := (hMs E hE).1; omega)
    have kt := takeAll_kept Ms w60
    have hrt := kt.heap hr60 (fun hE => by have := (hMs _ hE).1; omega)
    refine ⟨marksOk_of Ms w60 hnd hm60, true, by rw [cell_blk hrt]; rfl, hK _ ?_⟩
    exact ((k0v.trans k58 (fun _ _ h => h)).trans k60 (fun k hk e => by omega)).trans kt (fun k hk hE => by have := (hMs k hE).1; omega)
end
end Go.Proofs.YtgfkpemnkmebkaaDoor
