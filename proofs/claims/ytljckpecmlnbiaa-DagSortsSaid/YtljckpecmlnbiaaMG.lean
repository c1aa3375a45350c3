/-
  The laws' small parts: few, known.
-/
import Derived.Test.YtljckpecmlnbiaaMF
import Derived.Test.YtljckpecmlnbiaaMC
import Derived.Test.YtljckpecmlnbiaaRows
import Derived.Test.YtljckpecmlnbiaaME
import Derived.WalkKit
import Derived.ProofKit
import Derived.Handy
import Derived.Lay
import Derived.Below
import Derived.Deep.Slices
import Derived.Lib.LaidU8
namespace Go.Proofs.Ytljckpecmlnbiaa
open Go Go.Lite Go.RowKit

/-- a box that is written whole -/
theorem set_box {w : World} {b : Nat} {z cs : Array Value} {t : TypeId} (h : w.heap[b]? = some (.cells z t (0, 0))) (hz : z.size = cs.size) :
    (∀ j, j < cs.size → Wr w ((⟨b, 0, none⟩ : Addr).add j)) ∧ (setCells w ⟨b, 0, none⟩ cs.toList 0).heap[b]? = some (.cells cs t (0, 0)) ∧ Kept (· = b) w (setCells w ⟨b, 0, none⟩ cs.toList 0) := by
  refine ⟨fun j hj => ?_, ?_, setCells_kept _ _ _ _⟩
  · rw [add_at, Nat.zero_add]
    exact wr_blk h (by omega)
  · have h1 := setCells_block cs.toList z w t 0 0 h (by simp; omega)
    rw [h1, splice_all (by simp [hz])]

/-- a number, and zeros -/
def hx (i : Nat) (hi : i < 256) : HT := ⟨#[.int .u8 (i : Int), .int .u8 0, .int .u8 0, .int .u8 0, .int .u8 0, .int .u8 0, .int .u8 0, .int .u8 0, .int .u8 0, .int .u8 0, .int .u8 0, .int .u8 0, .int .u8 0, .int .u8 0, .int .u8 0, .int .u8 0, .int .u8 0, .int .u8 0, .int .u8 0, .int .u8 0, .int .u8 0, .int .u8 0, .int .u8 0, .int .u8 0, .int .u8 0, .int .u8 0, .int .u8 0, .int .u8 0, .int .u8 0, .int .u8 0, .int .u8 0, .int .u8 0], rfl, fun v hv => by
  simp only [List.mem_cons, List.not_mem_nil, or_false] at hv
  rcases hv with rfl | hv
  · exact ⟨i, rfl, by omega, by omega⟩
  · exact ⟨0, by simpa using hv, by omega, by omega⟩⟩
theorem hx_inj {i j : Nat} {hi : i < 256} {hj : j < 256} (h : i ≠ j) : hx i hi ≠ hx j hj := fun e => by
  have := congrArg (fun a : HT => a.1[0]?) e
  simp [hx] at this
  omega

section
variable {w w' : World} {K : Value → World → Prop}
/-- few steps, of few parents -/
def fewP (l : List DN) (most : Nat) : Prop := (∀ nd ∈ l, nd.ps.length ≤ 8) ∧ l.length ≤ most
end
end Go.Proofs.Ytljckpecmlnbiaa
/-
  known.
-/
namespace Go.Proofs.Ytljckpecmlnbiaa
open Go Go.Lite Go.RowKit

theorem HS.lay {w : World} {b : Nat} {l : List HT} {t : TypeId} (hb : w.heap[b]? = some (.cells (hcells l).toArray t (0, 0))) : HS w (some ⟨b, 0, Option.none⟩) l.length l :=
  ⟨rfl, fun i x hi => ⟨_, rfl, lt_blk hb, fun j v hj => by
    rw [add_at, add_at, Nat.zero_add, cell_blk hb]
    simpa using hcells_get hi hj⟩⟩

/-! the chapter's rows -/
section
variable {r a b c : HT} (hra : r ≠ a) (hrb : r ≠ b) (hrc : r ≠ c) (hab : a ≠ b) (hac : a ≠ c) (hbc : b ≠ c)
abbrev kD (r a b c : HT) : DG := [⟨r, []⟩, ⟨a, [r]⟩, ⟨b, [r]⟩, ⟨c, srt [a, b]⟩]
include hra in
theorem k1 : addC [⟨r, []⟩] a [r] = 0 ∧ addD [⟨r, []⟩] a [r] = [⟨r, []⟩, ⟨a, [r]⟩] := by
  have h : addC [⟨r, []⟩] a [r] = 0 := by
    unfold addC
    rw [if_neg (by simp [ids]; exact fun e => hra e.symm), srt_one, if_neg (by simp), if_neg (by simp [ids])]
  exact ⟨h, by unfold addD; rw [if_pos h, srt_one]; rfl⟩
include hrb hab in
theorem k2 : addC [⟨r, []⟩, ⟨a, [r]⟩] b [r] = 0 ∧ addD [⟨r, []⟩, ⟨a, [r]⟩] b [r] = [⟨r, []⟩, ⟨a, [r]⟩, ⟨b, [r]⟩] := by
  have h : addC [⟨r, []⟩, ⟨a, [r]⟩] b [r] = 0 := by
    unfold addC
    rw [if_neg (by simp [ids]; exact ⟨fun e => hrb e.symm, fun e => hab e.symm⟩), srt_one, if_neg (by simp), if_neg (by simp [ids])]
  exact ⟨h, by unfold addD; rw [if_pos h, srt_one]; rfl⟩
include hrc hab hac hbc in
theorem k3 : addC [⟨r, []⟩, ⟨a, [r]⟩, ⟨b, [r]⟩] c [a, b] = 0 ∧ addD [⟨r, []⟩, ⟨a, [r]⟩, ⟨b, [r]⟩] c [a, b] = kD r a b c := by
  have hl : (srt [a, b]).length = 2 := srt_len_nodup (by simp [hab])
  have h : addC [⟨r, []⟩, ⟨a, [r]⟩, ⟨b, [r]⟩] c [a, b] = 0 := by
    unfold addC
    rw [if_neg (by simp [ids]; exact ⟨fun e => hrc e.symm, fun e => hac e.symm, fun e => hbc e.symm⟩), hl, if_neg (by simp), if_neg]
    rintro ⟨p, hp, hn⟩
    rw [mem_srt] at hp
    simp at hp
    simp [ids] at hn
    rcases hp with rfl | rfl
    · exact hn.2.1 rfl
    · exact hn.2.2 rfl
  exact ⟨h, by unfold addD; rw [if_pos h]; rfl⟩
include hra hrb hrc hab hac hbc in
theorem kW : WfD (kD r a b c) := by
  have W1 := (WfD.root r).add a [r]
  rw [(k1 hra).2] at W1
  have W2 := W1.add b [r]
  rw [(k2 hrb hab).2] at W2
  have W3 := W2.add c [a, b]
  rw [(k3 hrc hab hac hbc).2] at W3
  exact W3
include hra hrb hrc hab hac hbc in
theorem kAnc : (∀ x, ¬ Anc (kD r a b c) x r) ∧ (∀ x, Anc (kD r a b c) x a ↔ x = r) ∧ (∀ x, Anc (kD r a b c) x b ↔ x = r) ∧ (∀ x, Anc (kD r a b c) x c ↔ x = a ∨ x = b ∨ x = r) := by
  have W := kW hra hrb hrc hab hac hbc
  have hr : ∀ x, ¬ Anc (kD r a b c) x r := fun x h => by
    obtain ⟨p, hp, _⟩ := (anc_iff W (i := 0) (nd := ⟨r, []⟩) rfl x).1 h
    simp at hp
  have ha : ∀ x, Anc (kD r a b c) x a ↔ x = r := fun x => by
    rw [anc_iff W (i := 1) (nd := ⟨a, [r]⟩) rfl x]
    constructor
    · rintro ⟨p, hp, e⟩
      simp at hp
      subst hp
      exact e.resolve_right (hr x)
    · rintro rfl
      exact ⟨_, by simp, .inl rfl⟩
  have hb : ∀ x, Anc (kD r a b c) x b ↔ x = r := fun x => by
    rw [anc_iff W (i := 2) (nd := ⟨b, [r]⟩) rfl x]
    constructor
    · rintro ⟨p, hp, e⟩
      simp at hp
      subst hp
      exact e.resolve_right (hr x)
    · rintro rfl
      exact ⟨_, by simp, .inl rfl⟩
  refine ⟨hr, ha, hb, fun x => ?_⟩
  rw [anc_iff W (i := 3) (nd := ⟨c, srt [a, b]⟩) rfl x]
  constructor
  · rintro ⟨p, hp, e⟩
    rw [mem_srt] at hp
    simp at hp
    rcases hp with rfl | rfl
    · rcases e with e | e
      · exact .inl e
      · exact .inr (.inr ((ha x).1 e))
    · rcases e with e | e
      · exact .inr (.inl e)
      · exact .inr (.inr ((hb x).1 e))
  · rintro (rfl | rfl | rfl)
    · exact ⟨_, mem_srt.2 (by simp), .inl rfl⟩
    · exact ⟨_, mem_srt.2 (by simp), .inl rfl⟩
    · exact ⟨a, mem_srt.2 (by simp), .inr ((ha _).2 rfl)⟩
include hra hrb hrc hab hac hbc in
theorem kAnti : antiL (kD r a b c) a = [b] := by
  obtain ⟨h1, h2, h3, h4⟩ := kAnc hra hrb hrc hab hac hbc
  refine SS_ext (SS_srt _) (by simp [SS]) fun x => ?_
  show x ∈ antiL (kD r a b c) a ↔ _
  unfold antiL
  rw [mem_pick, h2]
  constructor
  · rintro ⟨hx, _, n1, n2, n3⟩
    simp [ids] at hx
    rcases hx with rfl | rfl | rfl | rfl
    · exact absurd rfl n2
    · exact absurd rfl n1
    · simp
    · exact absurd ((h4 a).2 (.inl rfl)) n3
  · intro hx
    simp at hx
    subst hx
    refine ⟨by simp [ids], by simp [ids], fun e => hab e.symm, fun e => hrb e.symm, fun e => ?_⟩
    exact hra ((h3 a).1 e).symm
end

section
variable {w w' : World} {K : Value → World → Prop}
theorem known_ok (hK : ∀ w', Kept Nil w w' → K (.bool true) w') : Ret Try.prog law10_known.id #[] w K := by
  let r := hx 1 (by omega)
  let a := hx 2 (by omega)
  let b := hx 3 (by omega)
  let c := hx 4 (by omega)
  have hra : r ≠ a := hx_inj (by omega)
  have hrb : r ≠ b := hx_inj (by omega)
  have hrc : r ≠ c := hx_inj (by omega)
  have hab : a ≠ b := hx_inj (by omega)
  have hac : a ≠ c := hx_inj (by omega)
  have hbc : b ≠ c := hx_inj (by omega)
  refine law10_known.of ?_
  unfold law10_known.W
  intro w1 w2 w3 w4
  have k1' : Kept Nil w w1 := (Kept.refl _ _).alloc _
  have k2' : Kept Nil w1 w2 := (Kept.refl _ _).alloc _
  have k3' : Kept Nil w2 w3 := (Kept.refl _ _).alloc _
  have k4' : Kept Nil w3 w4 := (Kept.refl _ _).alloc _
  have hr1 := new_blk w (.cells (hx 0 (by omega)).1 T_api_Hash)
  have ha2 := new_blk w1 (.cells (hx 0 (by omega)).1 T_api_Hash)
  have hb3 := new_blk w2 (.cells (hx 0 (by omega)).1 T_api_Hash)
  have hc4 := new_blk w3 (.cells (hx 0 (by omega)).1 T_api_Hash)
  replace hr1 : w1.heap[w.heap.size]? = some (.cells (hx 0 (by omega)).1 T_api_Hash (0, 0)) := hr1
  replace ha2 : w2.heap[w1.heap.size]? = some (.cells (hx 0 (by omega)).1 T_api_Hash (0, 0)) := ha2
  replace hb3 : w3.heap[w2.heap.size]? = some (.cells (hx 0 (by omega)).1 T_api_Hash (0, 0)) := hb3
  replace hc4 : w4.heap[w3.heap.size]? = some (.cells (hx 0 (by omega)).1 T_api_Hash (0, 0)) := hc4
  clear_value w4
  have ha4 := k4'.heap (k3'.heap ha2 (fun h => h)) (fun h => h)
  have hb4 := k4'.heap hb3 (fun h => h)
  have hr4 := k4'.heap (k3'.heap (k2'.heap hr1 (fun h => h)) (fun h => h)) (fun h => h)
  have l1 := lt_blk hr1
  have l2 := lt_blk ha2
  have l3 := lt_blk hb3
  have l4 := lt_blk hc4
  clear_value w3
  clear_value w2
  clear_value w1
  have kw4 : Kept Nil w w4 := ((k1'.trans k2' (fun _ _ h => h)).trans k3' (fun _ _ h => h)).trans k4' (fun _ _ h => h)
  obtain ⟨wr7, hr7, k7⟩ := set_box hr4 (cs := r.1) rfl
  refine ⟨⟨r.2.1, r.2.one, fun j hj => wr7 j hj⟩, ?_⟩
  intro w7
  replace hr7 : w7.heap[w.heap.size]? = some (.cells r.1 T_api_Hash (0, 0)) := hr7
  replace k7 : Kept (· = w.heap.size) w4 w7 := k7
  clear_value w7
  have ha7 := k7.heap ha4 (by omega)
  have hb7 := k7.heap hb4 (by omega)
  have hc7 := k7.heap hc4 (by omega)
  obtain ⟨wr10, ha10, k10⟩ := set_box ha7 (cs := a.1) rfl
  refine ⟨⟨a.2.1, a.2.one, fun j hj => wr10 j hj⟩, ?_⟩
  intro w10
  replace ha10 : w10.heap[w1.heap.size]? = some (.cells a.1 T_api_Hash (0, 0)) := ha10
  replace k10 : Kept (· = w1.heap.size) w7 w10 := k10
  clear_value w10
  have hr10 := k10.heap hr7 (by omega)
  have hb10 := k10.heap hb7 (by omega)
  have hc10 := k10.heap hc7 (by omega)
  obtain ⟨wr13, hb13, k13⟩ := set_box hb10 (cs := b.1) rfl
  refine ⟨⟨b.2.1, b.2.one, fun j hj => wr13 j hj⟩, ?_⟩
  intro w13
  replace hb13 : w13.heap[w2.heap.size]? = some (.cells b.1 T_api_Hash (0, 0)) := hb13
  replace k13 : Kept (· = w2.heap.size) w10 w13 := k13
  clear_value w13
  have hr13 := k13.heap hr10 (by omega)
  have ha13 := k13.heap ha10 (by omega)
  have hc13 := k13.heap hc10 (by omega)
  obtain ⟨wr16, hc16, k16⟩ := set_box hc13 (cs := c.1) rfl
  refine ⟨⟨c.2.1, c.2.one, fun j hj => wr16 j hj⟩, ?_⟩
  intro w16
  replace hc16 : w16.heap[w3.heap.size]? = some (.cells c.1 T_api_Hash (0, 0)) := hc16
  replace k16 : Kept (· = w3.heap.size) w13 w16 := k16
  clear_value w16
  have hr16 := k16.heap hr13 (by omega)
  have ha16 := k16.heap ha13 (by omega)
  have hb16 := k16.heap hb13 (by omega)
  have kw16 : Kept Nil w w16 := (((kw4.trans k7 (fun k hk e => by omega)).trans k10 (fun k hk e => by omega)).trans k13 (fun k hk e => by omega)).trans k16 (fun k hk e => by omega)
  clear k7 k10 k13 k16 hr4 ha4 hb4 hr7 ha7 hb7 hc7 hr10 ha10 hb10 hc10 hr13 ha13 hb13 hc13 wr7 wr10 wr13 wr16
  have b1 := lt_blk hr16
  have b2 := lt_blk ha16
  have b3 := lt_blk hb16
  have b4 := lt_blk hc16
  refine ⟨r.1, ⟨r.2.1, Cells.blk hr16⟩, dag_New_ok r fun w19 g hG19 k19 => ⟨_, rfl, ?_⟩⟩
  have hr19 := k19.heap hr16 (fun h => h)
  have ha19 := k19.heap ha16 (fun h => h)
  have hb19 := k19.heap hb16 (fun h => h)
  have hc19 := k19.heap hc16 (fun h => h)
  refine ⟨a.1, ⟨a.2.1, Cells.blk ha19⟩, r.1, ⟨r.2.1, Cells.blk hr19⟩, r.2.1, ?_⟩
  intro w23
  have k23 : Kept Nil w19 w23 := (Kept.refl _ _).alloc _
  have hbox23 : HS w23 (some ⟨w19.heap.size, 0, none⟩) 1 [r] := hbox w19 r
  clear_value w23
  have hs19 := k19.size
  have hs23 := k23.size
  obtain ⟨bl, cc, mb, M, G23⟩ := hG19.same k23
  refine dag_Add G23 (WfD.root r) (by simp) hbox23 (by omega) a fun w25 S2 F2 hG25 k25 hS2 hF2 => ?_
  rw [(k1 hra).1]
  rw [(k1 hra).2] at hG25
  have kS2 : ∀ k, S2 k → w16.heap.size ≤ k := fun k hk => by
    rcases hS2 k hk with h | h
    · exact h.1
    · omega
  have nx : ∀ {S : Nat → Prop}, (∀ k, S k → w16.heap.size ≤ k) → ∀ {x : Nat}, x < w16.heap.size → ¬ S x := fun h _ hx e => by have := h _ e; omega
  refine ⟨0, rfl, Split.no rfl ?_⟩
  have kS1 : ∀ k, (w16.heap.size ≤ k ∧ k < w19.heap.size) → w16.heap.size ≤ k := fun k h => h.1
  have k1925 : Kept (fun k => w16.heap.size ≤ k) w16 w25 := ((k19.trans k23 (fun _ _ h => h)).mono (fun _ _ h => h.elim)).trans k25 (fun k _ h => h.1)
  have hr25 := k1925.heap hr16 (by omega)
  have ha25 := k1925.heap ha16 (by omega)
  have hb25 := k1925.heap hb16 (by omega)
  have hc25 := k1925.heap hc16 (by omega)
  refine ⟨b.1, ⟨b.2.1, Cells.blk hb25⟩, r.1, ⟨r.2.1, Cells.blk hr25⟩, r.2.1, ?_⟩
  intro w29
  have k29 : Kept Nil w25 w29 := (Kept.refl _ _).alloc _
  have hbox29 : HS w29 (some ⟨w25.heap.size, 0, none⟩) 1 [r] := hbox w25 r
  clear_value w29
  have hs25 := k1925.size
  have hs29 := k29.size
  have W1 := (WfD.root r).add a [r]
  rw [(k1 hra).2] at W1
  obtain ⟨bl, cc, mb, M, G29⟩ := hG25.same k29
  refine dag_Add G29 W1 (by simp) hbox29 (by omega) b fun w31 S3 F3 hG31 k31 hS3 hF3 => ?_
  rw [(k2 hrb hab).1]
  rw [(k2 hrb hab).2] at hG31
  have kS3 : ∀ k, S3 k → w16.heap.size ≤ k := fun k hk => by
    rcases hS3 k hk with h | h
    · exact kS2 k h
    · omega
  refine ⟨0, rfl, Split.no rfl ?_⟩
  have k1931 : Kept (fun k => w16.heap.size ≤ k) w16 w31 := (k1925.trans k29 (fun _ _ h => h.elim)).trans k31 (fun k _ h => kS2 k h)
  have hr31 := k1931.heap hr16 (by omega)
  have ha31 := k1931.heap ha16 (by omega)
  have hb31 := k1931.heap hb16 (by omega)
  have hc31 := k1931.heap hc16 (by omega)
  refine ⟨c.1, ⟨c.2.1, Cells.blk hc31⟩, a.1, ⟨a.2.1, Cells.blk ha31⟩, b.1, ⟨b.2.1, Cells.blk hb31⟩, a.2.1, b.2.1, ?_⟩
  intro w36
  have k36 : Kept Nil w31 w36 := (Kept.refl _ _).alloc _
  have hbox36 : HS w36 (some ⟨w31.heap.size, 0, none⟩) 2 [a, b] := by
    refine HS.lay (l := [a, b]) (t := T_api_Hash) ?_
    exact new_blk w31 (.cells (hcells [a, b]).toArray T_api_Hash)
  clear_value w36
  have hs31 := k1931.size
  have hs36 := k36.size
  have W2 := W1.add b [r]
  rw [(k2 hrb hab).2] at W2
  obtain ⟨bl, cc, mb, M, G36⟩ := hG31.same k36
  refine dag_Add G36 W2 (by simp) hbox36 (by omega) c fun w38 S4 F4 hG38 k38 hS4 hF4 => ?_
  rw [(k3 hrc hab hac hbc).1]
  rw [(k3 hrc hab hac hbc).2] at hG38
  have W3 := kW hra hrb hrc hab hac hbc
  obtain ⟨hA1, hA2, hA3, hA4⟩ := kAnc hra hrb hrc hab hac hbc
  refine ⟨0, rfl, Split.no rfl ?_⟩
  have k1938 : Kept (fun k => w16.heap.size ≤ k) w16 w38 := (k1931.trans k36 (fun _ _ h => h.elim)).trans k38 (fun k _ h => kS3 k h)
  have hr38 := k1938.heap hr16 (by omega)
  have ha38 := k1938.heap ha16 (by omega)
  have hb38 := k1938.heap hb16 (by omega)
  have hc38 := k1938.heap hc16 (by omega)
  have kw38 : Kept Nil w w38 := kw16.trans k1938 (fun k hk e => by have := kw16.size; omega)
  obtain ⟨bl, cc, mb, M, G38⟩ := hG38
  refine ⟨a.1, ⟨a.2.1, Cells.blk ha38⟩, dag_Anticone G38 W3 (by simp) a fun A42 c42 w42 row42 k42 => ⟨A42, _, c42, rfl, ?_⟩⟩
  rw [kAnti hra hrb hrc hab hac hbc] at row42 ⊢
  intro w44
  have k44 : Kept Nil w38 w44 := k42.drew
  have row44 : HRow w44 w38.heap.size A42 1 c42 [b] := Row.keep row42 ((Kept.refl Nil w42).drew) (fun _ _ h => h)
  clear_value w44
  refine Split.yes rfl (row44.hs.load (i := 0) (by omega) rfl ⟨b.1, ⟨b.2.1, Cells.blk (k44.heap hb38 (fun h => h))⟩, ⟨b.2.ints, b.2.ints⟩, ?_⟩)
  rw [sameInts_eq]
  refine Split.yes (decide_eq_true rfl) ⟨r.1, ⟨r.2.1, Cells.blk (k44.heap hr38 (fun h => h))⟩, c.1, ⟨c.2.1, Cells.blk (k44.heap hc38 (fun h => h))⟩, dag_Before (G38.same k44) W3 (by simp) r c fun w51 x hx51 k51 => ⟨x, rfl, ?_⟩⟩
  have hx' : x = true := hx51.2 ((hA4 r).2 (.inr (.inr rfl)))
  subst hx'
  have k51' := k44.trans k51 (fun _ _ h => h)
  refine Split.yes rfl ⟨a.1, ⟨a.2.1, Cells.blk (k51'.heap ha38 (fun h => h))⟩, b.1, ⟨b.2.1, Cells.blk (k51'.heap hb38 (fun h => h))⟩, dag_Before (G38.same k51') W3 (by simp) a b fun w56 y hy56 k56 => ⟨y, rfl, ?_⟩⟩
  have hy' : y = false := by
    cases y with
    | false => rfl
    | true => exact absurd ((hA3 a).1 (hy56.1 rfl)).symm hra
  subst hy'
  exact hK w56 ((kw38.trans k51' (fun _ _ h => h)).trans k56 (fun _ _ h => h))
end
end Go.Proofs.Ytljckpecmlnbiaa
/-
  What the frames of the dag's laws share: hashes, lists of hashes and lists of steps that came in, as the walks want them; the table that is laid.
-/
namespace Go.Proofs.Ytljckpecmlnbiaa
open Go Go.Lite Go.ChangeShapes Go.WideShapes Go.ChangeAt Go.RowKit
set_option linter.unusedVariables false

theorem ownNone : ownKnob Try.prog.godebug = none := by kernel_rfl
theorem laidOut : laidOutB Try.prog = true := by kernel_rfl
theorem frU8 : Try.prog.underlying T_uint8 = some (.int .u8) := by kernel_rfl
theorem frHash : Try.prog.underlying T_api_Hash = some (.array 32 T_uint8) := by kernel_rfl
theorem frHashes : Try.prog.underlying T_sl_api_Hash = some (.slice T_api_Hash) := by kernel_rfl
theorem frC8 : Try.prog.cellsOf T_uint8 = 1 := by kernel_rfl
theorem frCH : Try.prog.cellsOf T_api_Hash = 32 := by kernel_rfl
theorem frCHs : Try.prog.cellsOf T_sl_api_Hash = 1 := by kernel_rfl

section
variable {H : Type} {enc : TypeId × Value → H} {w : World} {base : Nat} {sp : Nat → Bool} {held : Bool} {fuel : Nat} {cs : List Value} {x : DataW H × List MemPlace}
theorem wf_u8 {n : Int} (h : (Lit.int .u8 n).wf = true) : 0 ≤ n ∧ n < 256 := by
  have e1 : IntKind.u8.min = 0 := by decide
  have e2 : IntKind.u8.max = 255 := by decide
  simp only [Lit.wf, Bool.and_eq_true, decide_eq_true_iff, e1, e2] at h
  omega
theorem trod_agg {t e : TypeId} {n : Nat} (ht : Try.prog.underlying t = some (.array n e)) (h : DataW.trod enc Try.prog w base sp held fuel t cs = some x) :
    cs.length = Try.prog.cellsOf t ∧ ∃ ds p, x = (.agg ds, p) := by
  cases fuel with
  | zero => simp [DataW.trod] at h
  | succ fuel =>
    simp only [DataW.trod, ht] at h
    split at h
    · rename_i hl
      obtain ⟨xs, hm, hx⟩ := Option.map_eq_some_iff.1 h
      exact ⟨hl, _, _, hx.symm⟩
    · cases h
/-- a hash that was read -/
theorem isH_of (h : DataW.trod enc Try.prog w base sp held fuel T_api_Hash cs = some x) : isH cs.toArray := by
  obtain ⟨hl, ds, p, rfl⟩ := trod_agg frHash h
  rw [frCH] at hl
  refine ⟨by simpa using hl, fun v hv => ?_⟩
  obtain ⟨i, hi, rfl⟩ := List.mem_iff_getElem.1 hv
  simp only at hi
  obtain ⟨fuel', d, q, _, hd⟩ := Lib.array_elem frHash h i (by omega)
  rw [frC8, Nat.mul_one] at hd
  obtain ⟨z, hz, _, hw⟩ := DataW.trod_int frU8 hd
  have h0 := congrArg (·[0]?) hz
  simp only [List.getElem?_take, List.getElem?_drop] at h0
  simp at h0
  have := wf_u8 hw
  refine ⟨z, ?_, this.1, this.2⟩
  have h1 : cs[i]? = some cs[i] := by simp
  rw [h1] at h0
  simpa using h0
theorem cells_of {a : Addr} {n : Nat} (h : w.cells? base a n = some cs) : Cells w a cs.toArray ∧ cs.length = n := by
  obtain ⟨_, hl, hc⟩ := World.cells?_some h
  refine ⟨fun j v hj => ?_, hl⟩
  have hj' : cs[j]? = some v := by simpa using hj
  have := (List.getElem?_eq_some_iff.1 hj').1
  rw [hc j (by omega), hj']
/-- some hash -/
def hzero : HT := ⟨Array.replicate 32 (.int .u8 0), by simp, fun v hv => ⟨0, by simp at hv; exact hv, by omega, by omega⟩⟩
/-- a list of hashes that was read -/
theorem hs_of (h : DataW.trod enc Try.prog w base sp held fuel T_sl_api_Hash cs = some x) :
    ∃ A n c l, cs = [.slice A n c] ∧ HS w A n l ∧ n ≤ maxLen := by
  rcases Deep.open_slice frHashes h with ⟨rfl, _⟩ | ⟨a, len, cap, m, k, D, Pl, rfl, _, hl, hm, hme, _, hel⟩
  · exact ⟨none, 0, 0, [], rfl, ⟨rfl, fun i h hi => by simp at hi⟩, by decide⟩
  · have hlm : len ≤ m := by rw [hme]; split <;> omega
    have hall : ∀ i, i < len → ∃ hh : HT, a.block < w.heap.size ∧ Cells w (a.add (i * 32)) hh.1 := fun i hi => by
      obtain ⟨cs', hc, hd⟩ := hel i (by omega)
      rw [frCH] at hc
      obtain ⟨h1, h2⟩ := cells_of hc
      have h3 := isH_of hd
      have h4 := h1 0 (cs'.toArray[0]'(by simp [h2])) (by simp [h2])
      have h5 := World.block_lt_of_cell? w _ h4
      rw [addr_block, addr_block] at h5
      exact ⟨⟨_, h3⟩, h5, h1⟩
    haveI : Inhabited HT := ⟨hzero⟩
    obtain ⟨f, hf⟩ := Deep.choose_lt hall
    refine ⟨some a, len, cap, (List.range len).map f, rfl, ⟨by simp, fun i y hi => ?_⟩, by omega⟩
    have hlt := (List.getElem?_eq_some_iff.1 hi).1
    simp only [List.length_map, List.length_range] at hlt
    simp [hlt] at hi
    subst hi
    exact ⟨a, rfl, (hf i hlt).1, (hf i hlt).2⟩
/-- a list of steps that was read -/
theorem ns_of {tS tSs : TypeId} {f0 f1 : Field} (hS : Try.prog.underlying tS = some (.struct #[f0, f1])) (h0 : f0.type = T_api_Hash ∧ f0.offset = 0) (h1 : f1.type = T_sl_api_Hash ∧ f1.offset = 32)
    (hcS : Try.prog.cellsOf tS = 33) (hSs : Try.prog.underlying tSs = some (.slice tS)) (h : DataW.trod enc Try.prog w base sp held fuel tSs cs = some x) :
    ∃ A n c l, cs = [.slice A n c] ∧ NS w (fun _ => True) A n l ∧ n ≤ maxLen := by
  rcases Deep.open_slice hSs h with ⟨rfl, _⟩ | ⟨a, len, cap, m, k, D, Pl, rfl, _, hl, hm, hme, _, hel⟩
  · exact ⟨none, 0, 0, [], rfl, ⟨rfl, fun i h hi => by simp at hi⟩, by decide⟩
  · have hlm : len ≤ m := by rw [hme]; split <;> omega
    have hall : ∀ i, i < len → ∃ nd : DN, a.block < w.heap.size ∧ ∃ pA pn pc, Cells w (a.add (i * 33)) (nd.id.1.push (.slice pA pn pc)) ∧ HS w pA pn nd.ps := fun i hi => by
      obtain ⟨cs', hc, hd⟩ := hel i (by omega)
      rw [hcS] at hc
      obtain ⟨g1, g2⟩ := cells_of hc
      obtain ⟨xs, n', rfl, _, _, hxl, hall⟩ := DataW.trod_struct hS hd
      have q0 := hall 0 f0 rfl
      have q1 := hall 1 f1 rfl
      rw [h0.1, h0.2, frCH] at q0
      rw [h1.1, h1.2, frCHs] at q1
      obtain ⟨x0, hx0⟩ : ∃ x0, xs[0]? = some x0 := ⟨xs[0]'(by simp at hxl; omega), by simp⟩
      obtain ⟨x1, hx1⟩ : ∃ x1, xs[1]? = some x1 := ⟨xs[1]'(by simp at hxl; omega), by simp⟩
      rw [hx0] at q0
      rw [hx1] at q1
      have hh := isH_of q0
      obtain ⟨pA, pn, pc, pl, hcs, hps, _⟩ := hs_of q1
      have h4 := g1 0 (cs'.toArray[0]'(by simp [g2])) (by simp [g2])
      have h5 := World.block_lt_of_cell? w _ h4
      rw [addr_block, addr_block] at h5
      refine ⟨⟨⟨_, hh⟩, pl⟩, h5, pA, pn, pc, ?_, hps⟩
      have e : cs' = (cs'.drop 0).take 32 ++ (cs'.drop 32).take 1 := by
        rw [List.drop_zero, List.take_of_length_le (l := cs'.drop 32) (by rw [List.length_drop]; omega), List.take_append_drop]
      have e2 : cs'.toArray = (((cs'.drop 0).take 32).toArray).push (.slice pA pn pc) := by
        conv => lhs; rw [e, hcs]
        simp
      rw [e2] at g1
      exact g1
    haveI : Inhabited DN := ⟨⟨hzero, []⟩⟩
    obtain ⟨f, hf⟩ := Deep.choose_lt hall
    refine ⟨some a, len, cap, (List.range len).map f, rfl, ⟨by simp, fun i y hi => ?_⟩, by omega⟩
    have hlt := (List.getElem?_eq_some_iff.1 hi).1
    simp only [List.length_map, List.length_range] at hlt
    simp [hlt] at hi
    subst hi
    obtain ⟨hb, pA, pn, pc, hc, hp⟩ := hf i hlt
    exact ⟨a, pA, pn, pc, rfl, hb, trivial, hc, hp, fun _ _ => trivial⟩
end
section
variable {H : Type} {enc : TypeId × Value → H} {w : World} {base : Nat} {sp : Nat → Bool} {held : Bool} {d : DataW H} {p : List MemPlace} {v : Value}

set_option maxRecDepth 100000 in
theorem arg_hash {t : TypeId} (et : t = T_api_Hash) (hv : Value.okWide Try.prog w .any base t v) (h : ∃ fuel, DataW.trod enc Try.prog w 0 sp held fuel t v.cells.toList = some (d, p)) : ∃ hh : HT, v = .agg hh.1 := by
  have ht : Try.prog.underlying t = some (.array 32 T_uint8) := by rw [et]; exact frHash
  simp only [Value.okWide, ht] at hv
  subst et
  obtain ⟨cs, rfl, h2, _⟩ := hv
  obtain ⟨fuel, h⟩ := h
  exact ⟨⟨cs, by simpa [Value.cells] using isH_of h⟩, rfl⟩
set_option maxRecDepth 100000 in
theorem arg_hashes {t : TypeId} (et : t = T_sl_api_Hash) (hv : Value.okWide Try.prog w .any base t v) (h : ∃ fuel, DataW.trod enc Try.prog w 0 sp held fuel t v.cells.toList = some (d, p)) :
    ∃ A n c l, v = .slice A n c ∧ HS w A n l ∧ n ≤ maxLen := by
  have ht : Try.prog.underlying t = some (.slice T_api_Hash) := by rw [et]; exact frHashes
  simp only [Value.okWide, ht, Cell.okWide] at hv
  obtain ⟨a0, len0, cap0, rfl⟩ : ∃ a len cap, v = .slice a len cap := by
    clear h
    cases v <;> simp_all [Cell.ok]
  clear hv
  subst et
  obtain ⟨fuel, h⟩ := h
  obtain ⟨A, n, c, l, he, h1, h2⟩ := hs_of h
  simp [Value.cells] at he
  obtain ⟨rfl, rfl, rfl⟩ := he
  exact ⟨_, _, _, l, rfl, h1, h2⟩
set_option maxRecDepth 100000 in
theorem arg_steps {tS tSs : TypeId} {f0 f1 : Field} (hS : Try.prog.underlying tS = some (.struct #[f0, f1])) (h0 : f0.type = T_api_Hash ∧ f0.offset = 0) (h1 : f1.type = T_sl_api_Hash ∧ f1.offset = 32)
    (hcS : Try.prog.cellsOf tS = 33) (hSs : Try.prog.underlying tSs = some (.slice tS)) (hv : Value.okWide Try.prog w .any base tSs v) (h : ∃ fuel, DataW.trod enc Try.prog w 0 sp held fuel tSs v.cells.toList = some (d, p)) :
    ∃ A n c l, v = .slice A n c ∧ NS w (fun _ => True) A n l ∧ n ≤ maxLen := by
  simp only [Value.okWide, hSs, Cell.okWide] at hv
  obtain ⟨a0, len0, cap0, rfl⟩ : ∃ a len cap, v = .slice a len cap := by
    clear h
    cases v <;> simp_all [Cell.ok]
  obtain ⟨fuel, h⟩ := h
  obtain ⟨A, n, c, l, he, h1, h2⟩ := ns_of hS h0 h1 hcS hSs h
  simp [Value.cells] at he
  obtain ⟨rfl, rfl, rfl⟩ := he
  exact ⟨_, _, _, l, rfl, h1, h2⟩
end
end Go.Proofs.Ytljckpecmlnbiaa
/-
  The walk of DagSorts.
-/
namespace Go.Proofs.Ytljckpecmlnbiaa
open Go Go.Lite Go.RowKit

section
variable {w w' : World} {K : Value → World → Prop}
theorem cmpH_self (a : HT) : cmpH a a = 0 := by unfold cmpH; rw [hlt_irrefl]; rfl
theorem cmpK (w : World) (a b : HT) : Kept Nil w ((w.alloc (.cells a.1 T_api_Hash)).alloc (.cells b.1 T_api_Hash)).drew := (((Kept.refl Nil w).alloc _).alloc _).drew
theorem sorts_ok {A : Option Addr} {n c : Nat} {l : List HT} (hl : HS w A n l) (a b : HT) (hK : ∀ w', Kept Nil w w' → K (.bool true) w') :
    Ret Try.prog law10_DagSorts.id #[.agg a.1, .agg b.1, .slice A n c] w K := by
  have hlen := hl.len
  refine law10_DagSorts.of ?_
  unfold law10_DagSorts.W
  intro w4 w5
  have k4 : Kept Nil w w4 := (Kept.refl _ _).alloc _
  have ha4 : w4.heap[w.heap.size]? = some (.cells a.1 T_api_Hash (0, 0)) := new_blk w _
  have k45 : Kept Nil w4 w5 := (Kept.refl _ _).alloc _
  have hb5 : w5.heap[w4.heap.size]? = some (.cells b.1 T_api_Hash (0, 0)) := new_blk w4 _
  have ha5 := k45.heap ha4 (fun h => h)
  have k5 := k4.trans k45 (fun _ _ h => h)
  clear_value w5
  have hcA : ∀ {v : World}, Kept Nil w5 v → Cells v (⟨w.heap.size, 0, none⟩ : Addr) a.1 := fun k => Cells.blk (k.heap ha5 (fun h => h))
  have hcB : ∀ {v : World}, Kept Nil w5 v → Cells v (⟨w4.heap.size, 0, none⟩ : Addr) b.1 := fun k => Cells.blk (k.heap hb5 (fun h => h))
  refine Split.dec (fun hgt => known_ok fun w7 k7 => ⟨true, rfl, hK w7 (k5.trans k7 (fun _ _ h => h))⟩) (fun hle => ?_)
  have hn : n ≤ 60 := by omega
  have hl5 := hl.same k5
  obtain ⟨A3, c3, w10, hr10, row10, hg10, _⟩ := append_hs (cx := c) T_sl_api_Hash (HRow.nil w5 w5.heap.size) hl5 (by omega) (Nat.le_refl _)
  rw [Nat.zero_add] at hr10 row10
  rw [List.nil_append] at row10
  have k10 : Kept Nil w5 w10 := Kept.growNew (Kept.refl _ _) hg10 (fun k hk => by cases hk)
  refine ⟨A3, n, c3, w10, hr10, ?_⟩
  refine dag_Sorted_ok (HRow.hs row10) (by omega) fun A12 c12 w12 row12 k12 => ⟨A12, _, c12, rfl, ?_⟩
  intro w14
  have k14 : Kept Nil w12 w14 := (Kept.refl _ _).drew
  clear_value w14
  have k14' := (k10.trans k12 (fun _ _ h => h)).trans k14 (fun _ _ h => h)
  refine ⟨a.1, ⟨a.2.1, hcA k14'⟩, b.1, ⟨b.2.1, hcB k14'⟩, a.1, ⟨a.2.1, hcA k14'⟩, b.1, ⟨b.2.1, hcB k14'⟩, ?_⟩
  refine dag_Compare_ok a b ⟨_, rfl, ?_⟩
  have kc := cmpK w14 a b
  generalize ((w14.alloc (.cells a.1 T_api_Hash)).alloc (.cells b.1 T_api_Hash)).drew = w20 at kc
  have k20' := k14'.trans kc (fun _ _ h => h)
  refine ⟨⟨b.1, rfl, b.2.1, hcB k20'⟩, ⟨a.1, rfl, a.2.1, hcA k20'⟩, ?_⟩
  refine ref_Compare a b fun w23 k23 => ⟨_, rfl, ?_⟩
  have k23' := k20'.trans k23 (fun _ _ h => h)
  refine Split.yes (by simp) ⟨a.1, ⟨a.2.1, hcA k23'⟩, a.1, ⟨a.2.1, hcA k23'⟩, ?_⟩
  refine dag_Compare_ok a a ⟨_, rfl, ?_⟩
  have kd := cmpK w23 a a
  generalize ((w23.alloc (.cells a.1 T_api_Hash)).alloc (.cells a.1 T_api_Hash)).drew = w28 at kd
  have k28' := k23'.trans kd (fun _ _ h => h)
  refine Split.yes (by rw [cmpH_self]; rfl) ?_
  refine ref_Sorted (hl5.same k28') (by omega) fun A31 c31 w31 row31 k31 => ⟨A31, _, c31, rfl, ?_⟩
  have k1231 := ((k14.trans kc (fun _ _ h => h)).trans k23 (fun _ _ h => h)).trans (kd.trans k31 (fun _ _ h => h)) (fun _ _ h => h)
  have k31' := k28'.trans k31 (fun _ _ h => h)
  have hsl := srt_len l
  refine ref_Equal (HRow.hs (Row.keep row12 k1231 (fun _ _ h => h))) (HRow.hs row31) (by omega) fun w34 k34 => ⟨_, rfl, ?_⟩
  have k34' := k31'.trans k34 (fun _ _ h => h)
  refine Split.yes (decide_eq_true rfl) ?_
  have k1034 := (k12.trans k1231 (fun _ _ h => h)).trans k34 (fun _ _ h => h)
  refine ref_Equal (HRow.hs (Row.keep row10 k1034 (fun _ _ h => h))) (hl5.same k34') (by omega) fun w37 k37 => ⟨_, rfl, ?_⟩
  refine Split.yes (decide_eq_true rfl) (known_ok fun w40 k40 => ⟨true, rfl, hK w40 ((k5.trans (k34'.trans k37 (fun _ _ h => h)) (fun _ _ h => h)).trans k40 (fun _ _ h => h))⟩)
end
end Go.Proofs.Ytljckpecmlnbiaa
