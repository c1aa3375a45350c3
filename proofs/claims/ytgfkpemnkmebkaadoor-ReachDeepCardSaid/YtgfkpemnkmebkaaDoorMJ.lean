/-
  The document's index: New, Add, Up, Chain.
-/
import Derived.Test.YtgfkpemnkmebkaaDoorMI
import Derived.Test.YtgfkpemnkmebkaaDoorMG
import Derived.Test.YtgfkpemnkmebkaaDoorMF
namespace Go.Proofs.YtgfkpemnkmebkaaDoor
open Go Go.Lite Go.RowKit

section
variable {w w' : World} {F F' S : Nat → Prop} {r : Nat} {D : DG} {P : List Int} {K : Value → World → Prop}
end
end Go.Proofs.YtgfkpemnkmebkaaDoor
/-
  The document's index: New, Add.
-/
namespace Go.Proofs.YtgfkpemnkmebkaaDoor
open Go Go.Lite Go.RowKit

section
variable {w w' : World} {F F' S : Nat → Prop} {r : Nat} {D : DG} {P : List Int} {K : Value → World → Prop}
end
end Go.Proofs.YtgfkpemnkmebkaaDoor
/-
  The document's index: Cover.
-/
namespace Go.Proofs.YtgfkpemnkmebkaaDoor
open Go Go.Lite Go.RowKit

section
variable {w w' : World} {F S : Nat → Prop} {r : Nat} {D : DG} {P : List Int} {K : Value → World → Prop}
theorem hash_set {v : World} {b : Nat} {z : Array Value} {t : TypeId} (s : HT) (h : v.heap[b]? = some (.cells z t (0, 0))) (hz : z.size = 32) :
    (s.1.size = 32 ∧ (∀ c ∈ s.1.toList, c.oneCell' = true) ∧ ∀ j, j < 32 → Wr v ((⟨b, 0, none⟩ : Addr).add j)) ∧ (setCells v (⟨b, 0, none⟩ : Addr) s.1.toList 0).heap[b]? = some (.cells s.1 t (0, 0)) ∧ Kept (· = b) v (setCells v (⟨b, 0, none⟩ : Addr) s.1.toList 0) := by
  obtain ⟨h1, h2, h3⟩ := set_box h (cs := s.1) (by rw [s.2.1]; exact hz)
  exact ⟨⟨s.2.1, s.2.one, fun j hj => h1 j (by rw [s.2.1]; exact hj)⟩, h2, h3⟩
end
end Go.Proofs.YtgfkpemnkmebkaaDoor
/-
  Steps of an index; few, all; both indexes side by side; begin.
-/
namespace Go.Proofs.YtgfkpemnkmebkaaDoor
open Go Go.Lite Go.RowKit

section
variable {w w' v : World} {F FP FR S S2 F2 : Nat → Prop} {x r : Nat} {D D' : DG} {P P' : List Int} {K : Value → World → Prop}
/-- Add of an index, whatever comes of it -/
theorem reach_AddI (h : IsX w S F x D P) (hD : D.length ≤ 5000) (hT : Tab w) (hTn : ¬ S (Tryd.tzL_ren.g 1)) {A : Option Addr} {n cx : Nat} {lp : List HT} (hl : HS w A n lp) (hn : n ≤ 5000) (hid s : HT)
    (hK : ∀ u S' F', IsX u S' F' x (addXD D hid s lp) (addXP D P hid s lp) → Kept S w u → (∀ k, S' k → S k ∨ w.heap.size ≤ k) → (∀ k, F' k → F k ∨ w.heap.size ≤ k) → K (.int .i64 (addXC D hid s lp)) u) :
    Ret Tryd.prog reach_Index_Add.id #[.pointer (some ⟨x, 0, none⟩), .agg hid.1, .agg s.1, .slice A n cx] w K := by
  obtain ⟨m, h1, h2⟩ := h
  refine reach_Add h1 hD hT (fun e => hTn (h2 _ (.inl e))) hl hn hid s (fun u k hc => ?_) (fun u S' F' hI k hS hF hc => ?_)
  · refine hK u S F ?_ (k.mono fun _ _ h => h.elim) (fun k h => .inl h) (fun k h => .inl h)
    unfold addXD addXP
    rw [if_neg hc, if_neg hc]
    exact ⟨m, h1.same k, h2⟩
  · have := hK u S' F' hI (k.mono fun k _ h => h2 k h) (fun k h => (hS k h).imp (h2 k) (fun h => h)) hF
    rw [hc] at this
    exact this

/-! what steps come to -/
theorem addXD_len (D : DG) (h s : HT) (l : List HT) : (addXD D h s l).length ≤ D.length + 1 := by
  unfold addXD
  split
  · simp
  · omega
end
end Go.Proofs.YtgfkpemnkmebkaaDoor
/-
  known: the chapter's rows.
-/
namespace Go.Proofs.YtgfkpemnkmebkaaDoor
open Go Go.Lite Go.RowKit
open Tr (Und)

/-- four boxes of hashes, written one behind the other -/
theorem four (w : World) (r a b c : HT) :
    let w1 := w.alloc (.cells hnull.1 T_api_Hash); let w2 := w1.alloc (.cells hnull.1 T_api_Hash); let w3 := w2.alloc (.cells hnull.1 T_api_Hash); let w4 := w3.alloc (.cells hnull.1 T_api_Hash)
    let w7 := setCells w4 (⟨w.heap.size, 0, none⟩ : Addr) r.1.toList 0; let w10 := setCells w7 (⟨w1.heap.size, 0, none⟩ : Addr) a.1.toList 0; let w13 := setCells w10 (⟨w2.heap.size, 0, none⟩ : Addr) b.1.toList 0; let w16 := setCells w13 (⟨w3.heap.size, 0, none⟩ : Addr) c.1.toList 0
    ((∀ j, j < 32 → Wr w4 ((⟨w.heap.size, 0, none⟩ : Addr).add j)) ∧ (∀ j, j < 32 → Wr w7 ((⟨w1.heap.size, 0, none⟩ : Addr).add j)) ∧ (∀ j, j < 32 → Wr w10 ((⟨w2.heap.size, 0, none⟩ : Addr).add j)) ∧ (∀ j, j < 32 → Wr w13 ((⟨w3.heap.size, 0, none⟩ : Addr).add j))) ∧
    w16.heap[w.heap.size]? = some (.cells r.1 T_api_Hash (0, 0)) ∧ w16.heap[w1.heap.size]? = some (.cells a.1 T_api_Hash (0, 0)) ∧ w16.heap[w2.heap.size]? = some (.cells b.1 T_api_Hash (0, 0)) ∧ w16.heap[w3.heap.size]? = some (.cells c.1 T_api_Hash (0, 0)) ∧
    w.heap.size < w1.heap.size ∧ w1.heap.size < w2.heap.size ∧ w2.heap.size < w3.heap.size ∧ w3.heap.size < w16.heap.size ∧ Kept Nil w w16 := by
  intro w1 w2 w3 w4
  have k1' : Kept Nil w w1 := (Kept.refl _ _).alloc _
  have k2' : Kept Nil w1 w2 := (Kept.refl _ _).alloc _
  have k3' : Kept Nil w2 w3 := (Kept.refl _ _).alloc _
  have k4' : Kept Nil w3 w4 := (Kept.refl _ _).alloc _
  have hr1 : w1.heap[w.heap.size]? = some (.cells hnull.1 T_api_Hash (0, 0)) := new_blk w _
  have ha2 : w2.heap[w1.heap.size]? = some (.cells hnull.1 T_api_Hash (0, 0)) := new_blk w1 _
  have hb3 : w3.heap[w2.heap.size]? = some (.cells hnull.1 T_api_Hash (0, 0)) := new_blk w2 _
  have hc4 : w4.heap[w3.heap.size]? = some (.cells hnull.1 T_api_Hash (0, 0)) := new_blk w3 _
  clear_value w4
  have hb4 := k4'.heap hb3 (fun h => h)
  have ha4 := k4'.heap (k3'.heap ha2 (fun h => h)) (fun h => h)
  have hr4 := k4'.heap (k3'.heap (k2'.heap hr1 (fun h => h)) (fun h => h)) (fun h => h)
  have l1 := lt_blk hr1
  have l2 := lt_blk ha2
  have l3 := lt_blk hb3
  have l4 := lt_blk hc4
  clear_value w3 w2 w1
  have kw4 : Kept Nil w w4 := ((k1'.trans k2' (fun _ _ h => h)).trans k3' (fun _ _ h => h)).trans k4' (fun _ _ h => h)
  have sz : ∀ h : HT, hnull.1.size = h.1.size := fun h => by rw [h.2.1]; rfl
  obtain ⟨wr7, hr7, k7⟩ := set_box hr4 (cs := r.1) (sz r)
  rw [r.2.1] at wr7
  intro w7
  replace hr7 : w7.heap[w.heap.size]? = some (.cells r.1 T_api_Hash (0, 0)) := hr7
  replace k7 : Kept (· = w.heap.size) w4 w7 := k7
  clear_value w7
  obtain ⟨wr10, ha10, k10⟩ := set_box (k7.heap ha4 (by omega)) (cs := a.1) (sz a)
  rw [a.2.1] at wr10
  intro w10
  replace ha10 : w10.heap[w1.heap.size]? = some (.cells a.1 T_api_Hash (0, 0)) := ha10
  replace k10 : Kept (· = w1.heap.size) w7 w10 := k10
  clear_value w10
  obtain ⟨wr13, hb13, k13⟩ := set_box (k10.heap (k7.heap hb4 (by omega)) (by omega)) (cs := b.1) (sz b)
  rw [b.2.1] at wr13
  intro w13
  replace hb13 : w13.heap[w2.heap.size]? = some (.cells b.1 T_api_Hash (0, 0)) := hb13
  replace k13 : Kept (· = w2.heap.size) w10 w13 := k13
  clear_value w13
  obtain ⟨wr16, hc16, k16⟩ := set_box (k13.heap (k10.heap (k7.heap hc4 (by omega)) (by omega)) (by omega)) (cs := c.1) (sz c)
  rw [c.2.1] at wr16
  intro w16
  replace hc16 : w16.heap[w3.heap.size]? = some (.cells c.1 T_api_Hash (0, 0)) := hc16
  replace k16 : Kept (· = w3.heap.size) w13 w16 := k16
  clear_value w16
  have s16 := lt_blk hc16
  exact ⟨⟨wr7, wr10, wr13, wr16⟩, k16.heap (k13.heap (k10.heap hr7 (by omega)) (by omega)) (by omega), k16.heap (k13.heap ha10 (by omega)) (by omega), k16.heap hb13 (by omega), hc16, by omega, by omega, by omega, s16,
    (((kw4.trans k7 (fun k hk e => by omega)).trans k10 (fun k hk e => by omega)).trans k13 (fun k hk e => by omega)).trans k16 (fun k hk e => by omega)⟩

section
variable {r a b c : HT} (hra : r ≠ a) (hrb : r ≠ b) (hrc : r ≠ c) (hab : a ≠ b) (hac : a ≠ c) (hbc : b ≠ c)
theorem addX_yes {D : DG} {P : List Int} {h s : HT} {l : List HT} (hc : addC D h l = 0) (hs : s ∈ l) {j : Nat} (hj : pos s (ids D) 0 = some j) : addXC D h s l = 0 ∧ addXD D h s l = addD D h l ∧ addXP D P h s l = P ++ [(j : Int)] := by
  have e : addXC D h s l = 0 := by unfold addXC; rw [if_pos hc, if_pos hs]
  refine ⟨e, ?_, ?_⟩
  · unfold addXD addD
    rw [if_pos e, if_pos hc]
  · unfold addXP
    rw [if_pos e, hj]
    rfl
abbrev kP : List Int := [-1, 0, 0, 1]
theorem kSel : Sel (kD r a b c) kP where
  len := rfl
  root := rfl
  up := fun i p nd hi hp hnd => by
    match i, hi with
    | 1, _ => simp at hp hnd; subst hp hnd; exact ⟨0, _, rfl, by omega, rfl, by simp⟩
    | 2, _ => simp at hp hnd; subst hp hnd; exact ⟨0, _, rfl, by omega, rfl, by simp⟩
    | 3, _ => simp at hp hnd; subst hp hnd; exact ⟨1, _, rfl, by omega, rfl, mem_srt.2 (by simp)⟩
    | n + 4, _ => simp at hp
include hra hrb hrc hab hac hbc in
theorem kCh : Ch (kD r a b c) kP a c ∧ ¬ Ch (kD r a b c) kP b c ∧ coverL (kD r a b c) kP b = [c] := by
  have W := kW hra hrb hrc hab hac hbc
  have H := kSel (r := r) (a := a) (b := b) (c := c)
  obtain ⟨h1, h2, h3, h4⟩ := kAnc hra hrb hrc hab hac hbc
  have sc : SelOf (kD r a b c) kP a c := ⟨3, 1, _, _, rfl, rfl, rfl, rfl, rfl⟩
  have sa : SelOf (kD r a b c) kP r a := ⟨1, 0, _, _, rfl, rfl, rfl, rfl, rfl⟩
  refine ⟨⟨3, 1, _, _, rfl, rfl, rfl, rfl, .step rfl (.refl (by decide))⟩, fun h => ?_, ?_⟩
  · rcases h.inv W H with e | ⟨s, g1, g2⟩
    · exact hbc e
    · rw [SelOf.one W g1 sc] at g2
      rcases g2.inv W H with e | ⟨s, g3, g4⟩
      · exact hab e.symm
      · rw [SelOf.one W g3 sa] at g4
        rcases g4.inv W H with e | ⟨s, g5, _⟩
        · exact hrb e.symm
        · exact h1 s (.one (g5.par H))
  · refine SS_ext (SS_srt _) (by simp [SS]) fun x => ?_
    show x ∈ coverL _ _ b ↔ _
    unfold coverL
    rw [mem_pick, List.mem_singleton]
    constructor
    · rintro ⟨hx, hA, _⟩
      simp [ids] at hx
      rcases hx with rfl | rfl | rfl | rfl
      · exact absurd hA (h1 _)
      · exact absurd ((h2 b).1 hA).symm hrb
      · exact absurd hA (Anc.irrefl W _)
      · rfl
    · rintro rfl
      exact ⟨by simp [ids], (h4 b).2 (.inr (.inl rfl)), a, sc, fun e => hab e.symm, fun e => hrb ((h2 b).1 e).symm⟩
end

section
variable {w w' : World} {K : Value → World → Prop}
theorem knownX_ok (hT : Tab w) (hK : ∀ w', Kept Nil w w' → K (.bool true) w') : Ret Tryd.prog law12_known.id #[] w K := by
  let r := hx 1 (by omega)
  let a := hx 2 (by omega)
  let b := hx 3 (by omega)
  let c := hx 4 (by omega)
  have hra : r ≠ a := hx_inj (by omega)
  have hrb : r ≠ b := hx_inj (by omega)
  have hrc : r ≠ c := hx_inj (by omega)
  have hab : a ≠ b := hx_inj (by omega)
  have hac : a ≠ c := hx_inj (by omega)
  have hbc : b ≠ c := hx_inj (by omega)
  refine law12_known.of ?_
  unfold law12_known.W
  intro w1 w2 w3 w4
  obtain ⟨⟨f1, f2, f3, f4⟩, hr, ha, hb, hc, l1, l2, l3, l4, k⟩ := four w r a b c
  refine ⟨⟨r.2.1, r.2.one, f1⟩, ?_⟩
  intro w7
  refine ⟨⟨a.2.1, a.2.one, f2⟩, ?_⟩
  intro w10
  refine ⟨⟨b.2.1, b.2.one, f3⟩, ?_⟩
  intro w13
  refine ⟨⟨c.2.1, c.2.one, f4⟩, ?_⟩
  intro w16
  replace hr : w16.heap[w.heap.size]? = some (.cells r.1 T_api_Hash (0, 0)) := hr
  replace ha : w16.heap[w1.heap.size]? = some (.cells a.1 T_api_Hash (0, 0)) := ha
  replace hb : w16.heap[w2.heap.size]? = some (.cells b.1 T_api_Hash (0, 0)) := hb
  replace hc : w16.heap[w3.heap.size]? = some (.cells c.1 T_api_Hash (0, 0)) := hc
  replace k : Kept Nil w w16 := k
  replace l1 : w.heap.size < w1.heap.size := l1
  replace l2 : w1.heap.size < w2.heap.size := l2
  replace l3 : w2.heap.size < w3.heap.size := l3
  replace l4 : w3.heap.size < w16.heap.size := l4
  clear f1 f2 f3 f4
  clear_value w16
  clear w13 w10 w7
  clear_value w3
  clear w4
  clear_value w2
  clear_value w1
  have hTl := hT.lt
  have s16 := k.size
  -- what stands when only blocks behind w16 are written
  have box : ∀ {u : World} {S : Nat → Prop}, Kept S w16 u → (∀ k, S k → w16.heap.size ≤ k) → Cells u (⟨w.heap.size, 0, none⟩ : Addr) r.1 ∧ Cells u (⟨w1.heap.size, 0, none⟩ : Addr) a.1 ∧ Cells u (⟨w2.heap.size, 0, none⟩ : Addr) b.1 ∧ Cells u (⟨w3.heap.size, 0, none⟩ : Addr) c.1 := fun ku hS =>
    ⟨Cells.blk (ku.heap hr (fun e => by have := hS _ e; omega)), Cells.blk (ku.heap ha (fun e => by have := hS _ e; omega)), Cells.blk (ku.heap hb (fun e => by have := hS _ e; omega)), Cells.blk (ku.heap hc (fun e => by have := hS _ e; omega))⟩
  refine ⟨r.1, ⟨r.2.1, Cells.blk hr⟩, reach_New_ok r fun w19 x hX19 k19 => ⟨_, rfl, ?_⟩⟩
  obtain ⟨c1, c2, c3, c4⟩ := box k19 (fun _ h => h.elim)
  refine ⟨a.1, ⟨a.2.1, c2⟩, r.1, ⟨r.2.1, c1⟩, r.1, ⟨r.2.1, c1⟩, r.2.1, ?_⟩
  intro w24
  have k24 : Kept Nil w19 w24 := (Kept.refl _ _).alloc _
  have hb24 : HS w24 (some ⟨w19.heap.size, 0, none⟩) 1 [r] := hbox w19 r
  clear_value w24
  have k024 := k19.trans k24 (fun _ _ h => h)
  obtain ⟨e1, e2, e3⟩ := addX_yes (D := [⟨r, []⟩]) (P := [-1]) (h := a) (s := r) (l := [r]) (k1 hra).1 (by simp) (j := 0) (by simp [ids, pos])
  rw [(k1 hra).2] at e2
  refine reach_AddI (hX19.same k24) (by simp) (hT.same (k.trans k024 (fun _ _ h => h))) (fun e => by have := e.1; omega) hb24 (by omega) a r fun w26 S2 F2 hX26 k26 hS2 hF2 => ⟨_, rfl, ?_⟩
  rw [e1]
  rw [e2, e3] at hX26
  replace hX26 : IsX w26 S2 F2 x [⟨r, []⟩, ⟨a, [r]⟩] [-1, 0] := hX26
  refine Split.no rfl ?_
  have s24 := k024.size
  have m2 : ∀ q, S2 q → w16.heap.size ≤ q := fun q h => (hS2 q h).elim (fun h => h.1) (fun h => by omega)
  have k1626 : Kept (fun q => w16.heap.size ≤ q) w16 w26 := (k024.mono (S' := fun q => w16.heap.size ≤ q) (fun _ _ h => h.elim)).trans k26 (fun q _ h => h.1)
  obtain ⟨c1, c2, c3, c4⟩ := box k1626 (fun _ h => h)
  refine ⟨b.1, ⟨b.2.1, c3⟩, r.1, ⟨r.2.1, c1⟩, r.1, ⟨r.2.1, c1⟩, r.2.1, ?_⟩
  intro w31
  have k31 : Kept Nil w26 w31 := (Kept.refl _ _).alloc _
  have hb31 : HS w31 (some ⟨w26.heap.size, 0, none⟩) 1 [r] := hbox w26 r
  clear_value w31
  have k1631 := k1626.trans k31 (fun _ _ h => h.elim)
  obtain ⟨e1, e2, e3⟩ := addX_yes (D := [⟨r, []⟩, ⟨a, [r]⟩]) (P := [-1, 0]) (h := b) (s := r) (l := [r]) (k2 hrb hab).1 (by simp) (j := 0) (by simp [ids, pos])
  rw [(k2 hrb hab).2] at e2
  refine reach_AddI (hX26.same k31) (by simp) ((hT.same k).keep k1631 (fun e => by omega)) (fun e => by have := m2 _ e; omega) hb31 (by omega) b r fun w33 S3 F3 hX33 k33 hS3 hF3 => ⟨_, rfl, ?_⟩
  rw [e1]
  rw [e2, e3] at hX33
  replace hX33 : IsX w33 S3 F3 x [⟨r, []⟩, ⟨a, [r]⟩, ⟨b, [r]⟩] [-1, 0, 0] := hX33
  refine Split.no rfl ?_
  have s31 := k1631.size
  have m3 : ∀ q, S3 q → w16.heap.size ≤ q := fun q h => (hS3 q h).elim (m2 q) (fun h => by omega)
  have k1633 : Kept (fun q => w16.heap.size ≤ q) w16 w33 := k1631.trans k33 (fun q _ h => m2 q h)
  obtain ⟨c1, c2, c3, c4⟩ := box k1633 (fun _ h => h)
  refine ⟨c.1, ⟨c.2.1, c4⟩, a.1, ⟨a.2.1, c2⟩, a.1, ⟨a.2.1, c2⟩, b.1, ⟨b.2.1, c3⟩, a.2.1, b.2.1, ?_⟩
  intro w39
  have k39 : Kept Nil w33 w39 := (Kept.refl _ _).alloc _
  have hb39 : HS w39 (some ⟨w33.heap.size, 0, none⟩) 2 [a, b] := HS.lay (l := [a, b]) (t := T_api_Hash) (new_blk w33 (.cells (hcells [a, b]).toArray T_api_Hash))
  clear_value w39
  have k1639 := k1633.trans k39 (fun _ _ h => h.elim)
  obtain ⟨e1, e2, e3⟩ := addX_yes (D := [⟨r, []⟩, ⟨a, [r]⟩, ⟨b, [r]⟩]) (P := [-1, 0, 0]) (h := c) (s := a) (l := [a, b]) (k3 hrc hab hac hbc).1 (by simp) (j := 1) (by simp [ids, pos]; exact fun e => absurd e.symm hra)
  rw [(k3 hrc hab hac hbc).2] at e2
  refine reach_AddI (hX33.same k39) (by simp) ((hT.same k).keep k1639 (fun e => by omega)) (fun e => by have := m3 _ e; omega) hb39 (by omega) c a fun w41 S4 F4 hX41 k41 hS4 hF4 => ⟨_, rfl, ?_⟩
  rw [e1]
  rw [e2, e3] at hX41
  replace hX41 : IsX w41 S4 F4 x (kD r a b c) kP := hX41
  refine Split.no rfl ?_
  have k1641 : Kept (fun q => w16.heap.size ≤ q) w16 w41 := k1639.trans k41 (fun q _ h => m3 q h)
  obtain ⟨q1, q2, q3⟩ := kCh hra hrb hrc hab hac hbc
  obtain ⟨_, _, _, hA4⟩ := kAnc hra hrb hrc hab hac hbc
  have kw41 : Kept Nil w w41 := k.trans k1641 (fun q hq e => by omega)
  have hX : ∀ {v : World}, Kept Nil w41 v → IsX v S4 F4 x (kD r a b c) kP := fun k => hX41.same k
  obtain ⟨c1, c2, c3, c4⟩ := box k1641 (fun _ h => h)
  obtain ⟨m, hV, _⟩ := hX (Kept.refl _ _)
  refine ⟨b.1, ⟨b.2.1, c3⟩, reach_Cover hV (by simp) b (fun w' hn _ => absurd (by simp [ids]) hn) fun A45 c45 w45 _ row45 k45 => ⟨A45, _, c45, 0, rfl, ?_⟩⟩
  rw [q3] at row45 ⊢
  intro w48
  have k48 : Kept Nil w45 w48 := (Kept.refl _ _).drew
  have row48 : HRow w48 w41.heap.size A45 1 c45 [c] := Row.keep row45 k48 (fun _ _ h => h)
  clear_value w48
  have k4148 := k45.trans k48 (fun _ _ h => h)
  have bx : ∀ {u : World}, Kept Nil w41 u → Cells u (⟨w1.heap.size, 0, none⟩ : Addr) a.1 ∧ Cells u (⟨w2.heap.size, 0, none⟩ : Addr) b.1 ∧ Cells u (⟨w3.heap.size, 0, none⟩ : Addr) c.1 := fun k => (box (k1641.trans k (fun _ _ h => h.elim)) (fun _ h => h)).2
  refine Split.yes rfl (Split.yes rfl (row48.hs.load (i := 0) (by omega) rfl ⟨c.1, ⟨c.2.1, (bx k4148).2.2⟩, ⟨c.2.ints, c.2.ints⟩, ?_⟩))
  rw [sameInts_eq]
  refine Split.yes (decide_eq_true rfl) ⟨b.1, ⟨b.2.1, (bx k4148).2.1⟩, c.1, ⟨c.2.1, (bx k4148).2.2⟩, reach_Before (hV.same k4148) (by simp) b c fun w55 t ht k55 => ⟨t, rfl, ?_⟩⟩
  have k4155 := k4148.trans k55 (fun _ _ h => h)
  refine Split.yes (ht.2 ((hA4 b).2 (.inr (.inl rfl)))) ⟨b.1, ⟨b.2.1, (bx k4155).2.1⟩, c.1, ⟨c.2.1, (bx k4155).2.2⟩, reach_Chain (hV.same k4155) b c fun w60 t2 ht2 k60 => ⟨t2, rfl, ?_⟩⟩
  have k4160 := k4155.trans k60 (fun _ _ h => h)
  have e2 : t2 = false := by
    cases t2 with
    | false => rfl
    | true => exact absurd (ht2.1 rfl) q2
  subst e2
  refine Split.yes rfl ⟨a.1, ⟨a.2.1, (bx k4160).1⟩, c.1, ⟨c.2.1, (bx k4160).2.2⟩, reach_Chain (hV.same k4160) a c fun w65 t3 ht3 k65 => ⟨t3, rfl, ?_⟩⟩
  rw [ht3.2 q1]
  exact hK w65 (kw41.trans (k4160.trans k65 (fun _ _ h => h)) (fun _ _ h => h))
end
end Go.Proofs.YtgfkpemnkmebkaaDoor
/-
  same: both indexes say the same of who stands ahead of whom, on whose chain.
-/
namespace Go.Proofs.YtgfkpemnkmebkaaDoor
open Go Go.Lite Go.RowKit

section
variable {w w' : World} {S F FR : Nat → Prop} {x r : Nat} {D : DG} {P : List Int} {m : XM} {K : Value → World → Prop}
end
end Go.Proofs.YtgfkpemnkmebkaaDoor
/-
  ReachDeep, plainly: a long chain beside which others stand (no program in sight).
-/
namespace Go.Proofs.YtgfkpemnkmebkaaDoor
open Go Go.Lite
open Tr (Und)

/-- the block at a height; s: 0 on the chain, 1 beside it -/
def hd (i s : Nat) : HT := ⟨#[.int .u8 ((i % 256 : Nat) : Int), .int .u8 0, .int .u8 ((s % 256 : Nat) : Int), .int .u8 0, .int .u8 0, .int .u8 0, .int .u8 0, .int .u8 0, .int .u8 0, .int .u8 0, .int .u8 0, .int .u8 0, .int .u8 0, .int .u8 0, .int .u8 0, .int .u8 0, .int .u8 0, .int .u8 0, .int .u8 0, .int .u8 0, .int .u8 0, .int .u8 0, .int .u8 0, .int .u8 0, .int .u8 0, .int .u8 0, .int .u8 0, .int .u8 0, .int .u8 0, .int .u8 0, .int .u8 0, .int .u8 0], rfl, fun v hv => by
  simp only [List.mem_cons, List.not_mem_nil, or_false] at hv
  rcases hv with rfl | rfl | rfl | hv
  · exact ⟨_, rfl, by omega, by omega⟩
  · exact ⟨_, rfl, by omega, by omega⟩
  · exact ⟨_, rfl, by omega, by omega⟩
  · exact ⟨0, by simpa using hv, by omega, by omega⟩⟩
theorem hd_inj {i j s t : Nat} (hi : i < 256) (hj : j < 256) (hs : s < 256) (ht : t < 256) (h : hd i s = hd j t) : i = j ∧ s = t := by
  have h0 := congrArg (fun a : HT => a.1[0]?) h
  have h2 := congrArg (fun a : HT => a.1[2]?) h
  simp [hd] at h0 h2
  omega
/-- beside the chain stands one at this height -/
def side (e i : Nat) : Prop := 0 < i ∧ i % e = 0
instance (e i : Nat) : Decidable (side e i) := inferInstanceAs (Decidable (0 < i ∧ i % e = 0))
/-- what there is: up to height i on the chain, up to height b beside it -/
structure Deep (e i b : Nat) (D : DG) (P : List Int) : Prop where
  W : WfD D
  H : Sel D P
  id : ∀ a, a ∈ ids D ↔ (∃ j, j ≤ i ∧ a = hd j 0) ∨ ∃ j, j ≤ b ∧ side e j ∧ a = hd j 1
  sel : ∀ s c, SelOf D P s c ↔ (∃ j, j < i ∧ c = hd (j + 1) 0 ∧ s = hd j 0) ∨ ∃ j, j + 1 ≤ b ∧ side e (j + 1) ∧ c = hd (j + 1) 1 ∧ s = hd j 0
  par : ∀ p c, Par D p c ↔ (∃ j, j < i ∧ c = hd (j + 1) 0 ∧ (p = hd j 0 ∨ side e j ∧ p = hd j 1)) ∨ ∃ j, j + 1 ≤ b ∧ side e (j + 1) ∧ c = hd (j + 1) 1 ∧ p = hd j 0
section
variable {e i b : Nat} {D : DG} {P : List Int}
theorem Deep.zero (e : Nat) : Deep e 0 0 [⟨hd 0 0, []⟩] [-1] where
  W := WfD.root _
  H := ⟨rfl, rfl, fun i p nd hi hp => by
    cases i with
    | zero => omega
    | succ i => simp at hp⟩
  id := fun a => by
    simp only [ids, List.map_cons, List.map_nil, List.mem_singleton]
    constructor
    · rintro rfl; exact .inl ⟨0, Nat.le_refl _, rfl⟩
    · rintro (⟨j, hj, rfl⟩ | ⟨j, hj, hs, _⟩)
      · rw [Nat.le_zero.1 hj]
      · have := hs.1; omega
  sel := fun s c => by
    constructor
    · rintro ⟨i, j, ni, m, h1, _, h3, _, _⟩
      cases i with
      | zero => simp at h3
      | succ i => simp at h1
    · rintro (⟨j, hj, _⟩ | ⟨j, hj, _⟩) <;> omega
  par := fun p c => by
    constructor
    · rintro ⟨nd, h1, _, h2⟩
      rw [List.mem_singleton] at h1
      subst h1
      simp at h2
    · rintro (⟨j, hj, _⟩ | ⟨j, hj, _⟩) <;> omega
/-- one that is new comes -/
theorem addC_new {h : HT} {l : List HT} (hn : h ∉ ids D) (h0 : l ≠ []) (hd : l.Nodup) (hin : ∀ p ∈ l, p ∈ ids D) : addC D h l = 0 := by
  unfold addC
  rw [if_neg hn, srt_len_nodup hd, if_neg, if_neg]
  · rintro ⟨p, hp, hq⟩
    exact hq (hin p (mem_srt.1 hp))
  · rintro (h | h)
    · exact h0 (List.length_eq_zero_iff.1 h)
    · exact h rfl
/-- .. on the chain -/
theorem Deep.chain (Z : Deep e i i D P) (hi : i < 200) {l : List HT} (hl : l = hd i 0 :: if side e i then [hd i 1] else []) :
    addXC D (hd (i + 1) 0) (hd i 0) l = 0 ∧ Deep e (i + 1) i (addXD D (hd (i + 1) 0) (hd i 0) l) (addXP D P (hd (i + 1) 0) (hd i 0) l) := by
  have hml : ∀ p, p ∈ l ↔ p = hd i 0 ∨ (side e i ∧ p = hd i 1) := fun p => by
    rw [hl]
    split
    · rename_i h; simp [h]
    · rename_i h; simp [h]
  have hn : hd (i + 1) 0 ∉ ids D := fun h => by
    rcases (Z.id _).1 h with ⟨j, hj, h⟩ | ⟨j, hj, _, h⟩
    · have := (hd_inj (by omega) (by omega) (by omega) (by omega) h).1; omega
    · have := (hd_inj (by omega) (by omega) (by omega) (by omega) h).1; omega
  have hnd : l.Nodup := by
    rw [hl]
    split
    · simp only [List.nodup_cons, List.mem_singleton, List.not_mem_nil, not_false_eq_true, List.nodup_nil, and_self, and_true]
      exact fun h => by have := (hd_inj (by omega) (by omega) (by omega) (by omega) h).2; omega
    · simp
  have hin : ∀ p ∈ l, p ∈ ids D := fun p hp => by
    rcases (hml p).1 hp with rfl | ⟨hs, rfl⟩
    · exact (Z.id _).2 (.inl ⟨i, Nat.le_refl _, rfl⟩)
    · exact (Z.id _).2 (.inr ⟨i, Nat.le_refl _, hs, rfl⟩)
  have hc := addC_new hn (by rw [hl]; simp) hnd hin
  have hsl : hd i 0 ∈ l := (hml _).2 (.inl rfl)
  have hx : addXC D (hd (i + 1) 0) (hd i 0) l = 0 := by unfold addXC; rw [if_pos hc, if_pos hsl]
  obtain ⟨mj, hmj, hms⟩ := ids_mem.1 (hin _ hsl)
  obtain ⟨j, hj⟩ := List.mem_iff_getElem?.1 hmj
  have eP : addXP D P (hd (i + 1) 0) (hd i 0) l = P ++ [(j : Int)] := by
    unfold addXP
    rw [if_pos hx, ← hms, Z.W.pos_eq hj]
    rfl
  have eD : addXD D (hd (i + 1) 0) (hd i 0) l = D ++ [⟨hd (i + 1) 0, srt l⟩] := by unfold addXD; rw [if_pos hx]
  refine ⟨hx, ?_⟩
  rw [eD, eP]
  refine ⟨Z.W.snoc hn (fun p hp => hin p (mem_srt.1 hp)) (SS_srt l), Z.H.snoc hj (by rw [hms]; exact mem_srt.2 hsl) Z.W.pos, fun a => ?_, fun s c => ?_, fun p c => ?_⟩
  · rw [ids_snoc, List.mem_append, Z.id, List.mem_singleton]
    constructor
    · rintro ((⟨j, hj, rfl⟩ | h) | rfl)
      · exact .inl ⟨j, by omega, rfl⟩
      · exact .inr h
      · exact .inl ⟨i + 1, Nat.le_refl _, rfl⟩
    · rintro (⟨j, hj, rfl⟩ | h)
      · by_cases e : j = i + 1
        · subst e; exact .inr rfl
        · exact .inl (.inl ⟨j, by omega, rfl⟩)
      · exact .inl (.inr h)
  · rw [selOf_snoc Z.W Z.H (nd := ⟨hd (i + 1) 0, srt l⟩) hn hj, Z.sel, hms]
    constructor
    · rintro ((⟨j, hj, rfl, rfl⟩ | h) | ⟨rfl, rfl⟩)
      · exact .inl ⟨j, by omega, rfl, rfl⟩
      · exact .inr h
      · exact .inl ⟨i, by omega, rfl, rfl⟩
    · rintro (⟨j, hj, rfl, rfl⟩ | h)
      · by_cases e : j = i
        · subst e; exact .inr ⟨rfl, rfl⟩
        · exact .inl (.inl ⟨j, by omega, rfl, rfl⟩)
      · exact .inl (.inr h)
  · rw [par_snoc, Z.par, mem_srt, hml]
    constructor
    · rintro ((⟨j, hj, rfl, h⟩ | h) | ⟨rfl, h⟩)
      · exact .inl ⟨j, by omega, rfl, h⟩
      · exact .inr h
      · exact .inl ⟨i, by omega, rfl, h⟩
    · rintro (⟨j, hj, rfl, h⟩ | h)
      · by_cases e : j = i
        · subst e; exact .inr ⟨rfl, h⟩
        · exact .inl (.inl ⟨j, by omega, rfl, h⟩)
      · exact .inl (.inr h)
/-- no one stands beside it at this height -/
theorem Deep.none (Z : Deep e (i + 1) i D P) (hn : ¬ side e (i + 1)) : Deep e (i + 1) (i + 1) D P := by
  refine ⟨Z.W, Z.H, fun a => ?_, fun s c => ?_, fun p c => ?_⟩
  · rw [Z.id]
    constructor
    · rintro (h | ⟨j, h1, h2⟩)
      · exact .inl h
      · exact .inr ⟨j, by omega, h2⟩
    · rintro (h | ⟨j, h1, h2, h3⟩)
      · exact .inl h
      · by_cases e : j = i + 1
        · subst e; exact absurd h2 hn
        · exact .inr ⟨j, by omega, h2, h3⟩
  · rw [Z.sel]
    constructor
    · rintro (h | ⟨j, h1, h2⟩)
      · exact .inl h
      · exact .inr ⟨j, by omega, h2⟩
    · rintro (h | ⟨j, h1, h2, h3⟩)
      · exact .inl h
      · by_cases e : j = i
        · subst e; exact absurd h2 hn
        · exact .inr ⟨j, by omega, h2, h3⟩
  · rw [Z.par]
    constructor
    · rintro (h | ⟨j, h1, h2⟩)
      · exact .inl h
      · exact .inr ⟨j, by omega, h2⟩
    · rintro (h | ⟨j, h1, h2, h3⟩)
      · exact .inl h
      · by_cases e : j = i
        · subst e; exact absurd h2 hn
        · exact .inr ⟨j, by omega, h2, h3⟩
/-- .. or one does -/
theorem Deep.beside (Z : Deep e (i + 1) i D P) (hi : i < 200) (hs : side e (i + 1)) :
    addXC D (hd (i + 1) 1) (hd i 0) [hd i 0] = 0 ∧ Deep e (i + 1) (i + 1) (addXD D (hd (i + 1) 1) (hd i 0) [hd i 0]) (addXP D P (hd (i + 1) 1) (hd i 0) [hd i 0]) := by
  have hn : hd (i + 1) 1 ∉ ids D := fun h => by
    rcases (Z.id _).1 h with ⟨j, hj, h⟩ | ⟨j, hj, _, h⟩
    · have := (hd_inj (by omega) (by omega) (by omega) (by omega) h).2; omega
    · have := (hd_inj (by omega) (by omega) (by omega) (by omega) h).1; omega
  have hin : ∀ p ∈ [hd i 0], p ∈ ids D := fun p hp => by
    rw [List.mem_singleton] at hp
    subst hp
    exact (Z.id _).2 (.inl ⟨i, by omega, rfl⟩)
  have hc := addC_new hn (by simp) (by simp) hin
  have hx : addXC D (hd (i + 1) 1) (hd i 0) [hd i 0] = 0 := by unfold addXC; rw [if_pos hc, if_pos (by simp)]
  obtain ⟨mj, hmj, hms⟩ := ids_mem.1 (hin (hd i 0) (by simp))
  obtain ⟨j, hj⟩ := List.mem_iff_getElem?.1 hmj
  have eP : addXP D P (hd (i + 1) 1) (hd i 0) [hd i 0] = P ++ [(j : Int)] := by
    unfold addXP
    rw [if_pos hx, ← hms, Z.W.pos_eq hj]
    rfl
  have eD : addXD D (hd (i + 1) 1) (hd i 0) [hd i 0] = D ++ [⟨hd (i + 1) 1, srt [hd i 0]⟩] := by unfold addXD; rw [if_pos hx]
  refine ⟨hx, ?_⟩
  rw [eD, eP]
  refine ⟨Z.W.snoc hn (fun p hp => hin p (mem_srt.1 hp)) (SS_srt _), Z.H.snoc hj (by rw [hms]; exact mem_srt.2 (by simp)) Z.W.pos, fun a => ?_, fun s c => ?_, fun p c => ?_⟩
  · rw [ids_snoc, List.mem_append, Z.id, List.mem_singleton]
    constructor
    · rintro ((h | ⟨j, hj, h⟩) | rfl)
      · exact .inl h
      · exact .inr ⟨j, by omega, h⟩
      · exact .inr ⟨i + 1, Nat.le_refl _, hs, rfl⟩
    · rintro (h | ⟨j, hj, h1, h2⟩)
      · exact .inl (.inl h)
      · by_cases e : j = i + 1
        · subst e; exact .inr h2
        · exact .inl (.inr ⟨j, by omega, h1, h2⟩)
  · rw [selOf_snoc Z.W Z.H (nd := ⟨hd (i + 1) 1, srt [hd i 0]⟩) hn hj, Z.sel, hms]
    constructor
    · rintro ((h | ⟨j, hj, h⟩) | ⟨rfl, rfl⟩)
      · exact .inl h
      · exact .inr ⟨j, by omega, h⟩
      · exact .inr ⟨i, by omega, hs, rfl, rfl⟩
    · rintro (h | ⟨j, hj, h1, h2, h3⟩)
      · exact .inl (.inl h)
      · by_cases e : j = i
        · subst e; exact .inr ⟨h2, h3⟩
        · exact .inl (.inr ⟨j, by omega, h1, h2, h3⟩)
  · rw [par_snoc, Z.par, mem_srt, List.mem_singleton]
    constructor
    · rintro ((h | ⟨j, hj, h⟩) | ⟨rfl, h⟩)
      · exact .inl h
      · exact .inr ⟨j, by omega, h⟩
      · exact .inr ⟨i, by omega, hs, rfl, h⟩
    · rintro (h | ⟨j, hj, h1, h2, h3⟩)
      · exact .inl (.inl h)
      · by_cases e : j = i
        · subst e; exact .inr ⟨h2.symm, h3⟩
        · exact .inl (.inr ⟨j, by omega, h1, h2, h3⟩)

/-! what the law asks -/
/-- heights rise along pasts -/
theorem Deep.high (Z : Deep e i i D P) (hi : i < 200) {a c : HT} (h : Anc D a c) : ∃ j s k t, a = hd j s ∧ c = hd k t ∧ j < k ∧ k ≤ i ∧ s < 2 ∧ t < 2 := by
  have step : ∀ {p c}, Par D p c → ∃ j s k t, p = hd j s ∧ c = hd k t ∧ j < k ∧ k ≤ i ∧ s < 2 ∧ t < 2 := fun h => by
    rcases (Z.par _ _).1 h with ⟨j, hj, rfl, rfl | ⟨_, rfl⟩⟩ | ⟨j, hj, _, rfl, rfl⟩
    · exact ⟨j, 0, j + 1, 0, rfl, rfl, by omega, by omega, by omega, by omega⟩
    · exact ⟨j, 1, j + 1, 0, rfl, rfl, by omega, by omega, by omega, by omega⟩
    · exact ⟨j, 0, j + 1, 1, rfl, rfl, by omega, by omega, by omega, by omega⟩
  induction h with
  | one hp => exact step hp
  | more _ hp ih =>
    obtain ⟨j, s, k, t, rfl, rfl, h1, h2, h3, h4⟩ := ih
    obtain ⟨j', s', k', t', e1, rfl, g1, g2, g3, g4⟩ := step hp
    have := (hd_inj (by omega) (by omega) (by omega) (by omega) e1).1
    exact ⟨j, s, k', t', rfl, rfl, by omega, g2, h3, g4⟩
theorem Deep.lt (Z : Deep e i i D P) (hi : i < 200) {j k s t : Nat} (hj : j < 200) (hk : k < 200) (hs : s < 2) (ht : t < 2) (h : Anc D (hd j s) (hd k t)) : j < k := by
  obtain ⟨j', s', k', t', e1, e2, h1, h2, h3, h4⟩ := Z.high hi h
  have := (hd_inj (by omega) (by omega) (by omega) (by omega) e1).1
  have := (hd_inj (by omega) (by omega) (by omega) (by omega) e2).1
  omega
theorem Deep.ch (Z : Deep e i i D P) {j k : Nat} (hjk : j ≤ k) (hk : k ≤ i) : Ch D P (hd j 0) (hd k 0) := by
  induction k with
  | zero => rw [Nat.le_zero.1 hjk]; exact Ch.refl Z.H ((Z.id _).2 (.inl ⟨0, by omega, rfl⟩))
  | succ k ih =>
    by_cases e : j = k + 1
    · subst e; exact Ch.refl Z.H ((Z.id _).2 (.inl ⟨_, hk, rfl⟩))
    · exact Ch.step Z.W ((Z.sel _ _).2 (.inl ⟨k, by omega, rfl, rfl⟩)) (ih (by omega) (by omega))
theorem Deep.ch_only (Z : Deep e i i D P) (hi : i < 200) {a : HT} : ∀ {k : Nat}, k ≤ i → Ch D P a (hd k 0) → ∃ j, j ≤ k ∧ a = hd j 0
  | 0, _, h => by
    rcases h.inv Z.W Z.H with e | ⟨s, h1, _⟩
    · exact ⟨0, Nat.le_refl _, e⟩
    · rcases (Z.sel _ _).1 h1 with ⟨j, hj, e, _⟩ | ⟨j, hj, _, e, _⟩
      · have := (hd_inj (by omega) (by omega) (by omega) (by omega) e).1; omega
      · have := (hd_inj (by omega) (by omega) (by omega) (by omega) e).1; omega
  | k + 1, hk, h => by
    rcases h.inv Z.W Z.H with e | ⟨s, h1, h2⟩
    · exact ⟨_, Nat.le_refl _, e⟩
    · rcases (Z.sel _ _).1 h1 with ⟨j, hj, e, rfl⟩ | ⟨j, hj, _, e, _⟩
      · have := (hd_inj (by omega) (by omega) (by omega) (by omega) e).1
        have e2 : j = k := by omega
        subst e2
        obtain ⟨q, hq, h3⟩ := Z.ch_only hi (by omega) h2
        exact ⟨q, by omega, h3⟩
      · have := (hd_inj (by omega) (by omega) (by omega) (by omega) e).2; omega
theorem Deep.anc (Z : Deep e i i D P) (hi : i < 200) {j : Nat} (hj : j ≤ i) : Anc D (hd j 0) (hd i 0) ↔ j < i := by
  refine ⟨Z.lt hi (by omega) hi (by omega) (by omega), fun h => ?_⟩
  exact ((Z.ch hj (Nat.le_refl _)).anc Z.W Z.H).resolve_left fun e => by have := (hd_inj (by omega) (by omega) (by omega) (by omega) e).1; omega
theorem Deep.anc1 (Z : Deep e i i D P) (hi : i < 200) {j : Nat} (hj : j ≤ i) (hs : side e j) : Anc D (hd j 1) (hd i 0) ↔ j < i := by
  refine ⟨Z.lt hi (by omega) hi (by omega) (by omega), fun h => ?_⟩
  have h1 : Anc D (hd j 1) (hd (j + 1) 0) := .one ((Z.par _ _).2 (.inl ⟨j, h, rfl, .inr ⟨hs, rfl⟩⟩))
  rcases (Z.ch (j := j + 1) (k := i) h (Nat.le_refl _)).anc Z.W Z.H with e | e
  · rw [← e]; exact h1
  · exact h1.trans e
theorem Deep.nch1 (Z : Deep e i i D P) (hi : i < 200) {j : Nat} (hj : j ≤ i) : ¬ Ch D P (hd j 1) (hd i 0) := fun h => by
  obtain ⟨q, hq, e⟩ := Z.ch_only hi (Nat.le_refl _) h
  have := (hd_inj (by omega) (by omega) (by omega) (by omega) e).2
  omega
theorem Deep.par1 (Z : Deep e i i D P) {j : Nat} (hj : j + 1 ≤ i) (hs : side e (j + 1)) : Anc D (hd j 0) (hd (j + 1) 1) := .one ((Z.par _ _).2 (.inr ⟨j, hj, hs, rfl, rfl⟩))
end
end Go.Proofs.YtgfkpemnkmebkaaDoor
/-
  The walk of ReachDeep.
-/
namespace Go.Proofs.YtgfkpemnkmebkaaDoor
open Go Go.Lite Go.RowKit

theorem tmod_nat (a b : Nat) : (a : Int).tmod (b : Int) = ((a % b : Nat) : Int) := by
  rw [Int.tmod_eq_emod_of_nonneg (by omega)]
  rfl
section
variable {w w' : World} {S F : Nat → Prop} {x : Nat} {D : DG} {P : List Int} {K : Value → World → Prop}
theorem fn1_ok {a b : Int} {i s : Nat} (ha : a = (i : Int)) (hb : b = (s : Int)) (hi : i < 200) (hs : s < 2) (hK : ∀ w', Kept Nil w w' → K (.agg (hd i s).1) w') : Ret Tryd.prog law12_ReachDeep_fn1.id #[.int .i64 a, .int .i64 b] w K := by
  subst ha hb
  refine law12_ReachDeep_fn1.of ?_
  unfold law12_ReachDeep_fn1.W
  have u8 : ∀ {z : Int}, 0 ≤ z → z < 256 → IntKind.u8.wrap z = z := fun h0 h1 => by
    simp only [IntKind.wrap, IntKind.bits, IntKind.signed]
    simp
    omega
  have e1 : IntKind.u8.wrap (i : Int) = ((i % 256 : Nat) : Int) := by rw [u8 (by omega) (by omega)]; omega
  have e2 : IntKind.u8.wrap (IntKind.i64.wrap ((i : Int).tdiv (256 : Int))) = 0 := by
    rw [Int.tdiv_eq_ediv_of_nonneg (by omega), show (i : Int) / 256 = 0 by omega, wrapI (by omega) (by omega), u8 (by omega) (by omega)]
  have e3 : IntKind.u8.wrap (s : Int) = ((s % 256 : Nat) : Int) := by rw [u8 (by omega) (by omega)]; omega
  rw [e1, e2, e3]
  intro w3
  obtain ⟨h1, h2, h3⟩ := box_set (w := w) (z := hnull.1) (cs := (hd i s).1) (t := T_api_Hash) (by rw [(hd i s).2.1]; rfl)
  refine ⟨by decide, ⟨(hd i s).2.1, (hd i s).2.one, fun j hj => h1 j (by rw [(hd i s).2.1]; exact hj)⟩, ?_⟩
  intro w6
  exact ⟨(hd i s).1, ⟨(hd i s).2.1, Cells.blk h2⟩, hK _ h3⟩
theorem reach_Dealt_ok {m : XM} (h : XV w F x D P m) (hK : K (.int .i64 m.d) w) : Ret Tryd.prog reach_Index_Dealt.id #[.pointer (some ⟨x, 0, none⟩)] w K :=
  reach_Index_Dealt.of (Split.no rfl (Is.mk rfl ⟨_, h.c1, Tr.tree_Dealt h.T ⟨_, rfl, hK⟩⟩))
/-- behind so many blocks -/
def DeepI (w : World) (x lb E N : Nat) : Bool × Bool × Int → World → Prop := fun s v => ∃ (i : Nat) (S F : Nat → Prop) (D : DG) (P : List Int) (z : Array Value), s = (false, decide (side E i), (i : Int) + 1) ∧ i ≤ N ∧ IsX v S F x D P ∧ Deep E i i D P ∧ D.length ≤ 2 * i + 1 ∧ Kept Nil w v ∧ (∀ k, S k → w.heap.size ≤ k) ∧ ¬ S lb ∧ ¬ F lb ∧ v.heap[lb]? = some (.cells z T_api_Hash (0, 0)) ∧ z.size = 32 ∧ (side E i → z = (hd i 1).1)
abbrev DeepM (N : Nat) : Bool × Bool × Int → World → Nat := fun s _ => ((N : Int) + 1 - s.2.2).toNat
theorem deep_J1 {lb E N i : Nat} {D : DG} {P : List Int} {v u : World} {z : Array Value} (hT : Tab w) (hlb : w.heap.size ≤ lb) (hE : 0 < E) (hN : N ≤ 150) (hi : i < N) (hX : IsX v S F x D P) (Z : Deep E i i D P) (hDl : D.length ≤ 2 * i + 1) (kv : Kept Nil w v) (nS : ∀ k, S k → w.heap.size ≤ k) (n1 : ¬ S lb) (n2 : ¬ F lb) (hb : v.heap[lb]? = some (.cells z T_api_Hash (0, 0))) (hz : z.size = 32)
    (ku : Kept Nil v u) {A : Option Addr} {c n : Nat} {l : List HT} (hl : l = hd i 0 :: if side E i then [hd i 1] else []) (hA : HS u A n l) {s0 : Bool × Bool × Int} (es : s0 = (false, decide (side E i), (i : Int) + 1)) :
    law12_ReachDeep.J1 (N : Int) (E : Int) false (some ⟨x, 0, none⟩) ⟨lb, 0, none⟩ (decide (side E i)) ((i : Int) + 1) A n c (roundQ (law12_ReachDeep.e1 (N : Int) (E : Int) (some ⟨x, 0, none⟩) ⟨lb, 0, none⟩) (DeepI w x lb E N) (DeepM N) s0 v (law12_ReachDeep.q1 K)) u := by
  subst es
  unfold law12_ReachDeep.J1
  have sub1 : IntKind.i64.wrap ((i : Int) + 1 - 1) = (i : Int) := by rw [wrapI (by omega) (by omega)]; omega
  have hlen := hA.len
  have hll : l.length ≤ 2 := by rw [hl]; split <;> simp
  refine fn1_ok (i := i + 1) (s := 0) (by omega) rfl (by omega) (by omega) fun w53 k53 => ⟨_, rfl, ?_⟩
  refine fn1_ok (i := i) (s := 0) sub1 rfl (by omega) (by omega) fun w56 k56 => ⟨_, rfl, ?_⟩
  have ku56 := k53.trans k56 (fun _ _ h => h)
  have kv56 := ku.trans ku56 (fun _ _ h => h)
  have kw56 := kv.trans kv56 (fun _ _ h => h)
  have hTl := hT.lt
  obtain ⟨eX, Z1⟩ := Z.chain (by omega) hl
  have hDl1 := addXD_len D (hd (i + 1) 0) (hd i 0) l
  refine reach_AddI (hX.same kv56) (by omega) (hT.same kw56) (fun e => by have := nS _ e; omega) (hA.same ku56) (by omega) (hd (i + 1) 0) (hd i 0) fun w59 S1 F1 hX1 k59 hS1 hF1 => ⟨_, rfl, ?_⟩
  rw [eX]
  refine Split.no rfl ⟨by omega, ?_⟩
  have kw59 : Kept Nil w w59 := kw56.trans k59 (fun k hk e => by have := nS k e; omega)
  have l1 := lt_blk hb
  have s56 := kv56.size
  have sw56 := kw56.size
  have m1 : ¬ S1 lb := fun e => (hS1 lb e).elim n1 (fun h => by omega)
  have m2 : ¬ F1 lb := fun e => (hF1 lb e).elim n2 (fun h => by omega)
  have mS : ∀ k, S1 k → w.heap.size ≤ k := fun k e => (hS1 k e).elim (nS k) (fun h => by omega)
  have hb59 := k59.heap (kv56.heap hb (fun h => h)) n1
  have em : (((i : Int) + 1).tmod (E : Int) == (0 : Int)) = decide (side E (i + 1)) := by
    rw [show (i : Int) + 1 = ((i + 1 : Nat) : Int) by omega, tmod_nat]
    rw [Bool.eq_iff_iff, decide_eq_true_iff, beq_iff_eq]
    unfold side
    omega
  have w2 : IntKind.i64.wrap ((i : Int) + 1 + 1) = ((i + 1 : Nat) : Int) + 1 := by rw [wrapI (by omega) (by omega)]; omega
  by_cases hs : side E (i + 1)
  · refine Split.yes (by rw [em]; exact decide_eq_true hs) ?_
    obtain ⟨eX2, Z2⟩ := Z1.beside (by omega) hs
    refine fn1_ok (i := i + 1) (s := 1) (by omega) rfl (by omega) (by omega) fun w62 k62 => ⟨_, rfl, ?_⟩
    obtain ⟨t1, t2, t3⟩ := hash_set (hd (i + 1) 1) (k62.heap hb59 (fun h => h)) hz
    refine ⟨t1, ?_⟩
    intro w66 w67
    replace t2 : w66.heap[lb]? = some (.cells (hd (i + 1) 1).1 T_api_Hash (0, 0)) := t2
    replace t3 : Kept (· = lb) w62 w66 := t3
    have k67 : Kept Nil w66 w67 := (Kept.refl _ _).drew
    clear_value w67 w66
    have hb67 := k67.heap t2 (fun h => h)
    have kw62 := kw59.trans k62 (fun _ _ h => h)
    have k6267 : Kept (· = lb) w62 w67 := t3.trans k67 (fun _ _ h => h.elim)
    have kw67 : Kept Nil w w67 := kw62.trans k6267 (fun k hk e => by omega)
    have hX67 := (hX1.same k62).keep k6267 (fun k h e => m1 (e ▸ h)) (fun k h e => m2 (e ▸ h))
    have hc : ∀ {u : World}, Kept Nil w67 u → Cells u (⟨lb, 0, none⟩ : Addr) (hd (i + 1) 1).1 := fun k => Cells.blk (k.heap hb67 (fun h => h))
    have hcs : ∀ {u : World}, Kept Nil w67 u → ∃ cs : Array Value, (.agg (hd (i + 1) 1).1 : Value) = .agg cs ∧ cs.size = 32 ∧ Cells u (⟨lb, 0, none⟩ : Addr) cs := fun k => ⟨_, rfl, (hd (i + 1) 1).2.1, hc k⟩
    refine ⟨(hd (i + 1) 1).1, ⟨(hd (i + 1) 1).2.1, hc (Kept.refl _ _)⟩, ?_⟩
    refine fn1_ok (i := i) (s := 0) sub1 rfl (by omega) (by omega) fun w70 k70 => ⟨_, rfl, hcs k70, ?_⟩
    refine fn1_ok (i := i) (s := 0) sub1 rfl (by omega) (by omega) fun w73 k73 => ⟨_, rfl, hcs (k70.trans k73 (fun _ _ h => h)), (hd i 0).2.1, ?_⟩
    intro w75
    have k75 : Kept Nil w73 w75 := (Kept.refl _ _).alloc _
    have hx75 : HS w75 (some ⟨w73.heap.size, 0, none⟩) 1 [hd i 0] := hbox w73 (hd i 0)
    clear_value w75
    have k6775 := (k70.trans k73 (fun _ _ h => h)).trans k75 (fun _ _ h => h)
    have kw75 := kw67.trans k6775 (fun _ _ h => h)
    refine ⟨hcs k6775, ?_⟩
    have hDl2 := addXD_len (addXD D (hd (i + 1) 0) (hd i 0) l) (hd (i + 1) 1) (hd i 0) [hd i 0]
    refine reach_AddI (hX67.same k6775) (by omega) (hT.same kw75) (fun e => by have := mS _ e; omega) hx75 (by omega) (hd (i + 1) 1) (hd i 0) fun w77 S2 F2 hX2 k77 hS2 hF2 => ⟨_, rfl, ?_⟩
    rw [eX2]
    refine Split.no rfl ?_
    have s75 := kw75.size
    have l62 : lb < w75.heap.size := Nat.lt_of_lt_of_le (lt_blk hb67) k6775.size
    rw [em, w2]
    refine ⟨(false, decide (side E (i + 1)), ((i + 1 : Nat) : Int) + 1), rfl, ⟨i + 1, S2, F2, _, _, (hd (i + 1) 1).1, rfl, by omega, hX2, Z2, by omega, kw75.trans k77 (fun k hk e => by have := mS k e; omega), fun k e => (hS2 k e).elim (mS k) (fun h => by omega), fun e => (hS2 lb e).elim m1 (fun h => by omega), fun e => (hF2 lb e).elim m2 (fun h => by omega), k77.heap (k6775.heap hb67 (fun h => h)) m1, (hd (i + 1) 1).2.1, fun _ => rfl⟩, by simp only [DeepM]; omega⟩
  · refine Split.no (by rw [em]; exact decide_eq_false hs) ?_
    rw [em, w2]
    exact ⟨(false, decide (side E (i + 1)), ((i + 1 : Nat) : Int) + 1), rfl, ⟨i + 1, S1, F1, _, _, z, rfl, by omega, hX1, Z1.none hs, by omega, kw59, mS, m1, m2, hb59, hz, fun h => absurd h hs⟩, by simp only [DeepM]; omega⟩
theorem deepX_ok (a b : Int) (hT : Tab w) (hK : ∀ w', Kept Nil w w' → K (.bool true) w') : Ret Tryd.prog law12_ReachDeep.id #[.int .i64 a, .int .i64 b] w K := by
  refine law12_ReachDeep.of ?_
  unfold law12_ReachDeep.W
  have kn : ∀ {v : World}, Kept Nil w v → Ret Tryd.prog law12_known.id #[] v fun v3 w_4 => ∃ t : Bool, v3 = .bool t ∧ K (.bool t) w_4 := fun k => knownX_ok (hT.same k) fun w4 k4 => ⟨true, rfl, hK w4 (k.trans k4 (fun _ _ h => h))⟩
  refine Split.dec (fun _ => kn (Kept.refl _ _)) (fun h1 => Split.dec (fun _ => kn (Kept.refl _ _)) (fun h2 => Split.dec (fun _ => kn (Kept.refl _ _)) (fun h3 => Split.dec (fun _ => kn (Kept.refl _ _)) (fun h4 => ?_))))
  obtain ⟨N, rfl⟩ := Int.eq_ofNat_of_zero_le (show 0 ≤ a by omega)
  obtain ⟨E, rfl⟩ := Int.eq_ofNat_of_zero_le (show 0 ≤ b by omega)
  refine fn1_ok (i := 0) (s := 0) rfl rfl (by omega) (by omega) fun w16 k16 => ⟨_, rfl, ?_⟩
  refine reach_New_ok (hd 0 0) fun w19 x hX19 k19 => ⟨_, rfl, ?_⟩
  intro w21
  have k21 : Kept Nil w19 w21 := (Kept.refl _ _).alloc _
  have hb21 : w21.heap[w19.heap.size]? = some (.cells hnull.1 T_api_Hash (0, 0)) := new_blk w19 _
  clear_value w21
  have s16 := k16.size
  have s19 := k19.size
  have k021 := (k16.trans k19 (fun _ _ h => h)).trans k21 (fun _ _ h => h)
  refine law12_ReachDeep.loop1 (I := DeepI w x w19.heap.size E N) (μ := DeepM N) (s := (false, false, 1)) ⟨0, _, _, _, _, hnull.1, ?_, by omega, hX19.same k21, Deep.zero E, by simp, k021, fun k e => by have := e.1; omega, fun e => by have := e.2; omega, fun h => h, hb21, rfl, fun h => by have := h.1; omega⟩ ?_
  · rw [decide_eq_false (fun h : side E 0 => by have := h.1; omega)]
    rfl
  rintro s v ⟨i, S, F, D, P, z, rfl, hi, hX, Z, hDl, kv, nS, n1, n2, hb, hz, hzs⟩
  refine Split.dec (fun hil0 => ?_) (fun hge => ?_)
  · simp only at hil0
    have sub1 : IntKind.i64.wrap ((i : Int) + 1 - 1) = (i : Int) := by rw [wrapI (by omega) (by omega)]; omega
    refine fn1_ok (i := i) (s := 0) sub1 rfl (by omega) (by omega) fun w30 k30 => ⟨_, rfl, (hd i 0).2.1, ?_⟩
    intro w32
    have k32 : Kept Nil w30 w32 := (Kept.refl _ _).alloc _
    have hb32 : w32.heap[w30.heap.size]? = some (.cells ((hd i 0).1.toList ++ []).toArray T_api_Hash (0, 0)) := new_blk w30 _
    have hx32 : HS w32 (some ⟨w30.heap.size, 0, none⟩) 1 [hd i 0] := hbox w30 (hd i 0)
    clear_value w32
    have kv32 := k30.trans k32 (fun _ _ h => h)
    by_cases hs : side E i
    · refine Split.yes (decide_eq_true hs) ?_
      have ez := hzs hs
      subst ez
      refine ⟨(hd i 1).1, ⟨(hd i 1).2.1, Cells.blk (kv32.heap hb (fun h => h))⟩, (hd i 1).2.1, ?_⟩
      intro w34
      have k34 : Kept Nil w32 w34 := (Kept.refl _ _).alloc _
      have hx34 : HS w34 (some ⟨w32.heap.size, 0, none⟩) 1 [hd i 1] := hbox w32 (hd i 1)
      clear_value w34
      have l32 := lt_blk hb32
      have row : HRow w34 w30.heap.size (some ⟨w30.heap.size, 0, none⟩) 1 1 [hd i 0] := by
        have e : hcells [hd i 0] = ((hd i 0).1.toList ++ []).toArray.toList := by simp [hcells]
        show Row _ _ _ _ _ _ _ (hcells [hd i 0])
        rw [e]
        exact Row.made (k34.heap hb32 (fun h => h)) (Nat.le_refl _) (by simp [(hd i 0).2.1]) (by unfold maxLen; omega)
      have s34 := k34.size
      obtain ⟨A2, c2, w36, hr36, row36, hg36, _⟩ := append_hs (cx := 1) T_sl_api_Hash row hx34 (by omega) (by omega)
      refine ⟨A2, _, c2, w36, hr36, law12_ReachDeep.join1 ?_⟩
      refine deep_J1 hT (by omega) (by omega) (by omega) (by omega) hX Z hDl kv nS n1 n2 hb hz ?_ (l := [hd i 0, hd i 1]) (by rw [if_pos hs]) (HRow.hs row36) rfl
      have s30 := k30.size
      exact Kept.growNew (kv32.trans k34 (fun _ _ h => h)) hg36 (fun k hk => by cases hk; exact s30)
    · refine Split.no (decide_eq_false hs) (law12_ReachDeep.join1 ?_)
      exact deep_J1 hT (by omega) (by omega) (by omega) (by omega) hX Z hDl kv nS n1 n2 hb hz kv32 (l := [hd i 0]) (by rw [if_neg hs]) hx32 rfl
  · simp only at hge
    have : i = N := by omega
    subst this
    rw [roundQ_exit, law12_ReachDeep.x1_0]
    unfold law12_ReachDeep.X1_0
    obtain ⟨m, hV, _⟩ := hX
    have hXu : ∀ {u : World}, Kept Nil v u → XV u F x D P m := fun k => hV.same k
    have hi2 : i < 200 := by omega
    refine law12_ReachDeep.loop2 (I := fun s u => ∃ j : Nat, s = (false, (j : Int)) ∧ j ≤ i + 1 ∧ Kept Nil v u) (μ := fun s _ => ((i : Int) + 1 - s.2).toNat) (s := (false, 0)) ⟨0, rfl, by omega, Kept.refl _ _⟩ ?_
    rintro s u ⟨j, rfl, hj, ku⟩
    refine Split.dec (fun hjl0 => ?_) (fun hgj => ?_)
    · simp only at hjl0
      have hjl : j ≤ i := by omega
      have next : ∀ {u' : World}, Kept Nil v u' → ∃ s' : Bool × Int, [(0, Value.int .i64 (i : Int)), (1, .int .i64 (E : Int)), (4, .bool false), (5, .func (.func law12_ReachDeep_fn1.id) #[] #[]), (6, .pointer (some ⟨x, 0, none⟩)), (11, .int .i64 (IntKind.i64.wrap ((j : Int) + (1 : Int))))] = law12_ReachDeep.e2 (i : Int) (E : Int) (some ⟨x, 0, none⟩) s' ∧ (∃ j : Nat, s' = (false, (j : Int)) ∧ j ≤ i + 1 ∧ Kept Nil v u') ∧ ((i : Int) + 1 - s'.2).toNat < ((i : Int) + 1 - (j : Int)).toNat := fun k => by
        rw [wrapP (n := (j : Int)) (by omega) (by omega)]
        exact ⟨(false, (j : Int) + 1), rfl, ⟨j + 1, rfl, by omega, k⟩, by simp only; omega⟩
      refine fn1_ok (i := j) (s := 0) rfl rfl (by omega) (by omega) fun w85 k85 => ⟨_, rfl, ?_⟩
      refine fn1_ok (i := i) (s := 0) rfl rfl (by omega) (by omega) fun w88 k88 => ⟨_, rfl, ?_⟩
      have q88 := (ku.trans k85 (fun _ _ h => h)).trans k88 (fun _ _ h => h)
      refine reach_Chain (hXu q88) (hd j 0) (hd i 0) fun w91 b1 hb1 k91 => ⟨b1, rfl, ?_⟩
      have q91 := q88.trans k91 (fun _ _ h => h)
      rw [hb1.2 (Z.ch hjl (Nat.le_refl _))]
      refine Split.no rfl ?_
      refine fn1_ok (i := j) (s := 0) rfl rfl (by omega) (by omega) fun w94 k94 => ⟨_, rfl, ?_⟩
      refine fn1_ok (i := i) (s := 0) rfl rfl (by omega) (by omega) fun w97 k97 => ⟨_, rfl, ?_⟩
      have q97 := (q91.trans k94 (fun _ _ h => h)).trans k97 (fun _ _ h => h)
      refine reach_Before (hXu q97) (by omega) (hd j 0) (hd i 0) fun w100 b2 hb2 k100 => ⟨b2, rfl, ?_⟩
      have q100 := q97.trans k100 (fun _ _ h => h)
      have e2 : b2 = decide ((j : Int) < (i : Int)) := by
        rw [Bool.eq_iff_iff, hb2, Z.anc hi2 hjl, decide_eq_true_iff]
        omega
      refine Split.no (by rw [e2]; simp) ?_
      refine Split.dec (fun hpos => ?_) (fun _ => next q100)
      simp only at hpos
      refine ⟨by omega, ?_⟩
      have em : ((j : Int).tmod (E : Int) == (0 : Int)) = decide (side E j) := by
        rw [tmod_nat, Bool.eq_iff_iff, decide_eq_true_iff, beq_iff_eq]
        unfold side
        omega
      by_cases hs : side E j
      · refine Split.yes (by rw [em]; exact decide_eq_true hs) ?_
        obtain ⟨q, rfl⟩ : ∃ q, j = q + 1 := ⟨j - 1, by omega⟩
        refine fn1_ok (i := q + 1) (s := 1) rfl rfl (by omega) (by omega) fun w103 k103 => ⟨_, rfl, ?_⟩
        refine fn1_ok (i := i) (s := 0) rfl rfl (by omega) (by omega) fun w106 k106 => ⟨_, rfl, ?_⟩
        have q106 := (q100.trans k103 (fun _ _ h => h)).trans k106 (fun _ _ h => h)
        refine reach_Chain (hXu q106) (hd (q + 1) 1) (hd i 0) fun w109 b3 hb3 k109 => ⟨b3, rfl, ?_⟩
        have q109 := q106.trans k109 (fun _ _ h => h)
        have e3 : b3 = false := by
          cases b3 with
          | false => rfl
          | true => exact absurd (hb3.1 rfl) (Z.nch1 hi2 hjl)
        refine Split.no e3 ?_
        refine fn1_ok (i := q + 1) (s := 1) rfl rfl (by omega) (by omega) fun w112 k112 => ⟨_, rfl, ?_⟩
        refine fn1_ok (i := i) (s := 0) rfl rfl (by omega) (by omega) fun w115 k115 => ⟨_, rfl, ?_⟩
        have q115 := (q109.trans k112 (fun _ _ h => h)).trans k115 (fun _ _ h => h)
        refine reach_Before (hXu q115) (by omega) (hd (q + 1) 1) (hd i 0) fun w118 b4 hb4 k118 => ⟨b4, rfl, ?_⟩
        have q118 := q115.trans k118 (fun _ _ h => h)
        have e4 : b4 = decide (((q + 1 : Nat) : Int) < (i : Int)) := by
          rw [Bool.eq_iff_iff, hb4, Z.anc1 hi2 hjl hs, decide_eq_true_iff]
          omega
        refine Split.no (by rw [e4]; simp) ?_
        refine fn1_ok (i := q + 1) (s := 0) rfl rfl (by omega) (by omega) fun w121 k121 => ⟨_, rfl, ?_⟩
        refine fn1_ok (i := q + 1) (s := 1) rfl rfl (by omega) (by omega) fun w124 k124 => ⟨_, rfl, ?_⟩
        have q124 := (q118.trans k121 (fun _ _ h => h)).trans k124 (fun _ _ h => h)
        refine reach_Before (hXu q124) (by omega) (hd (q + 1) 0) (hd (q + 1) 1) fun w127 b5 hb5 k127 => ⟨b5, rfl, ?_⟩
        have q127 := q124.trans k127 (fun _ _ h => h)
        have e5 : b5 = false := by
          cases b5 with
          | false => rfl
          | true => have := Z.lt hi2 (by omega) (by omega) (by omega) (by omega) (hb5.1 rfl); omega
        refine Split.no e5 ?_
        refine fn1_ok (i := q) (s := 0) (by rw [wrapI (by omega) (by omega)]; omega) rfl (by omega) (by omega) fun w130 k130 => ⟨_, rfl, ?_⟩
        refine fn1_ok (i := q + 1) (s := 1) rfl rfl (by omega) (by omega) fun w133 k133 => ⟨_, rfl, ?_⟩
        have q133 := (q127.trans k130 (fun _ _ h => h)).trans k133 (fun _ _ h => h)
        refine reach_Before (hXu q133) (by omega) (hd q 0) (hd (q + 1) 1) fun w136 b6 hb6 k136 => ⟨b6, rfl, ?_⟩
        rw [hb6.2 (Z.par1 hjl hs)]
        exact Split.no rfl (next (q133.trans k136 (fun _ _ h => h)))
      · exact Split.no (by rw [em]; exact decide_eq_false hs) (next q100)
    · rw [roundQ_exit, law12_ReachDeep.x2_2]
      unfold law12_ReachDeep.X2_2
      have kwu := kv.trans ku (fun _ _ h => h)
      have hVu := hXu ku
      refine reach_Dealt_ok hVu ⟨_, rfl, Split.yes (decide_eq_true hVu.dl.1) ?_⟩
      exact kn kwu
end
end Go.Proofs.YtgfkpemnkmebkaaDoor
