/-
  The laws' small parts: few, known.
-/
import Derived.Test.YtljckpecmlnbiaaDoorMF
import Derived.Test.YtljckpecmlnbiaaDoorMC
import Derived.Test.YtljckpecmlnbiaaDoorME
import Derived.Test.YtljckpecmlnbiaaDoorMD
import Derived.Test.YtljckpecmlnbiaaDoorRows
import Derived.WalkKit
import Derived.ProofKit
import Derived.Handy
import Derived.Lay
import Derived.Below
import Derived.Deep.Slices
import Derived.Lib.LaidU8
namespace Go.Proofs.YtljckpecmlnbiaaDoor
open Go Go.Lite Go.RowKit

/-- a box that is written whole -/
theorem set_box {w : World} {b : Nat} {z cs : Array Value} {t : TypeId} (h : w.heap[b]? = some (.cells z t (0, 0))) (hz : z.size = cs.size) :
    (∀ j, j < cs.size → Wr w ((⟨b, 0, none⟩ : Addr).add j)) ∧ (setCells w ⟨b, 0, none⟩ cs.toList 0).heap[b]? = some (.cells cs t (0, 0)) ∧ Kept (· = b) w (setCells w ⟨b, 0, none⟩ cs.toList 0) := by
  refine ⟨fun j hj => ?_, ?_, setCells_kept _ _ _ _⟩
  · rw [add_at, Nat.zero_add]
    exact wr_blk h (by omega)
  · have h1 := setCells_block cs.toList z w t 0 0 h (by simp; omega)
    rw [h1, splice_all (by simp [hz])]

/-- a number, and zeros -/
def hx (i : Nat) (hi : i < 256) : HT := ⟨#[.int .u8 (i : Int), .int .u8 0, .int .u8 0, .int .u8 0, .int .u8 0, .int .u8 0, .int .u8 0, .int .u8 0, .int .u8 0, .int .u8 0, .int .u8 0, .int .u8 0, .int .u8 0, .int .u8 0, .int .u8 0, .int .u8 0, .int .u8 0, .int .u8 0, .int .u8 0, .int .u8 0, .int .u8 0, .int .u8 0, .int .u8 0, .int .u8 0, .int .u8 0, .int .u8 0, .int .u8 0, .int .u8 0, .int .u8 0, .int .u8 0, .int .u8 0, .int .u8 0], rfl, fun v hv => by
  simp only [List.mem_cons, List.not_mem_nil, or_false] at hv
  rcases hv with rfl | hv
  · exact ⟨i, rfl, by omega, by omega⟩
  · exact ⟨0, by simpa using hv, by omega, by omega⟩⟩
theorem hx_inj {i j : Nat} {hi : i < 256} {hj : j < 256} (h : i ≠ j) : hx i hi ≠ hx j hj := fun e => by
  have := congrArg (fun a : HT => a.1[0]?) e
  simp [hx] at this
  omega

section
variable {w w' : World} {K : Value → World → Prop}
/-- few steps, of few parents -/
def fewP (l : List DN) (most : Nat) : Prop := (∀ nd ∈ l, nd.ps.length ≤ 8) ∧ l.length ≤ most
theorem few_ok {F : Nat → Prop} {A : Option Addr} {n c : Nat} {l : List DN} (hl : NS w F A n l) (hn : n < 9223372036854775808) (most : Nat) (hK : ∀ x : Bool, (x = true ↔ fewP l most) → K (.bool x) w) :
    Ret Tryd.prog law10_few.id #[.slice A n c, .int .i64 (most : Int)] w K := by
  have hlen := hl.len
  refine law10_few.of (law10_few.loop1 (I := fun s w' => w' = w ∧ ∃ i : Nat, s = (false, (i : Int)) ∧ i ≤ n ∧ ∀ nd ∈ l.take i, nd.ps.length ≤ 8) (μ := fun s _ => ((n : Int) - s.2).toNat) (s := (false, 0)) ⟨rfl, 0, rfl, Nat.zero_le _, by simp⟩ ?_)
  rintro s w' ⟨rfl, i, rfl, hi, hall⟩
  refine Split.dec (fun hil0 => ?_) (fun hge => ?_)
  · simp only at hil0
    have hil : i < n := by omega
    obtain ⟨nd, hnd⟩ : ∃ nd, l[i]? = some nd := ⟨_, List.getElem?_eq_getElem (by omega)⟩
    refine hl.ps (i := (i : Int)) (by omega) (by rw [Int.toNat_natCast]; exact hnd) fun pA pn pc hps _ => ?_
    have hpl := hps.len
    refine Split.dec (fun hgt => ?_) (fun hle => ?_)
    · refine hK false ⟨(fun h => by cases h), fun h => ?_⟩
      have := h.1 nd (List.mem_of_getElem? hnd)
      omega
    · simp only
      rw [wrapI (x := (i : Int) + 1) (by omega) (by omega)]
      refine ⟨(false, (i : Int) + 1), rfl, ⟨rfl, i + 1, rfl, hil, fun md hm => ?_⟩, by simp only; omega⟩
      rw [List.take_add_one, hnd] at hm
      simp only [Option.toList_some, List.mem_append, List.mem_singleton] at hm
      rcases hm with hm | rfl
      · exact hall md hm
      · omega
  · simp only at hge
    rw [roundQ_exit, law10_few.x1_0]
    rw [List.take_of_length_le (by omega)] at hall
    refine hK _ ⟨fun h => ⟨hall, ?_⟩, fun h => decide_eq_true ?_⟩
    · have := of_decide_eq_true h; omega
    · have := h.2; omega

end
end Go.Proofs.YtljckpecmlnbiaaDoor
/-
  known.
-/
namespace Go.Proofs.YtljckpecmlnbiaaDoor
open Go Go.Lite Go.RowKit

theorem HS.lay {w : World} {b : Nat} {l : List HT} {t : TypeId} (hb : w.heap[b]? = some (.cells (hcells l).toArray t (0, 0))) : HS w (some ⟨b, 0, Option.none⟩) l.length l :=
  ⟨rfl, fun i x hi => ⟨_, rfl, lt_blk hb, fun j v hj => by
    rw [add_at, add_at, Nat.zero_add, cell_blk hb]
    simpa using hcells_get hi hj⟩⟩

/-! the chapter's rows -/
section
variable {r a b c : HT} (hra : r ≠ a) (hrb : r ≠ b) (hrc : r ≠ c) (hab : a ≠ b) (hac : a ≠ c) (hbc : b ≠ c)
abbrev kD (r a b c : HT) : DG := [⟨r, []⟩, ⟨a, [r]⟩, ⟨b, [r]⟩, ⟨c, srt [a, b]⟩]
include hra in
theorem k1 : addC [⟨r, []⟩] a [r] = 0 ∧ addD [⟨r, []⟩] a [r] = [⟨r, []⟩, ⟨a, [r]⟩] := by
  have h : addC [⟨r, []⟩] a [r] = 0 := by
    unfold addC
    rw [if_neg (by simp [ids]; exact fun e => hra e.symm), srt_one, if_neg (by simp), if_neg (by simp [ids])]
  exact ⟨h, by unfold addD; rw [if_pos h, srt_one]; rfl⟩
include hrb hab in
theorem k2 : addC [⟨r, []⟩, ⟨a, [r]⟩] b [r] = 0 ∧ addD [⟨r, []⟩, ⟨a, [r]⟩] b [r] = [⟨r, []⟩, ⟨a, [r]⟩, ⟨b, [r]⟩] := by
  have h : addC [⟨r, []⟩, ⟨a, [r]⟩] b [r] = 0 := by
    unfold addC
    rw [if_neg (by simp [ids]; exact ⟨fun e => hrb e.symm, fun e => hab e.symm⟩), srt_one, if_neg (by simp), if_neg (by simp [ids])]
  exact ⟨h, by unfold addD; rw [if_pos h, srt_one]; rfl⟩
include hrc hab hac hbc in
theorem k3 : addC [⟨r, []⟩, ⟨a, [r]⟩, ⟨b, [r]⟩] c [a, b] = 0 ∧ addD [⟨r, []⟩, ⟨a, [r]⟩, ⟨b, [r]⟩] c [a, b] = kD r a b c := by
  have hl : (srt [a, b]).length = 2 := srt_len_nodup (by simp [hab])
  have h : addC [⟨r, []⟩, ⟨a, [r]⟩, ⟨b, [r]⟩] c [a, b] = 0 := by
    unfold addC
    rw [if_neg (by simp [ids]; exact ⟨fun e => hrc e.symm, fun e => hac e.symm, fun e => hbc e.symm⟩), hl, if_neg (by simp), if_neg]
    rintro ⟨p, hp, hn⟩
    rw [mem_srt] at hp
    simp at hp
    simp [ids] at hn
    rcases hp with rfl | rfl
    · exact hn.2.1 rfl
    · exact hn.2.2 rfl
  exact ⟨h, by unfold addD; rw [if_pos h]; rfl⟩
include hra hrb hrc hab hac hbc in
theorem kW : WfD (kD r a b c) := by
  have W1 := (WfD.root r).add a [r]
  rw [(k1 hra).2] at W1
  have W2 := W1.add b [r]
  rw [(k2 hrb hab).2] at W2
  have W3 := W2.add c [a, b]
  rw [(k3 hrc hab hac hbc).2] at W3
  exact W3
include hra hrb hrc hab hac hbc in
theorem kAnc : (∀ x, ¬ Anc (kD r a b c) x r) ∧ (∀ x, Anc (kD r a b c) x a ↔ x = r) ∧ (∀ x, Anc (kD r a b c) x b ↔ x = r) ∧ (∀ x, Anc (kD r a b c) x c ↔ x = a ∨ x = b ∨ x = r) := by
  have W := kW hra hrb hrc hab hac hbc
  have hr : ∀ x, ¬ Anc (kD r a b c) x r := fun x h => by
    obtain ⟨p, hp, _⟩ := (anc_iff W (i := 0) (nd := ⟨r, []⟩) rfl x).1 h
    simp at hp
  have ha : ∀ x, Anc (kD r a b c) x a ↔ x = r := fun x => by
    rw [anc_iff W (i := 1) (nd := ⟨a, [r]⟩) rfl x]
    constructor
    · rintro ⟨p, hp, e⟩
      simp at hp
      subst hp
      exact e.resolve_right (hr x)
    · rintro rfl
      exact ⟨_, by simp, .inl rfl⟩
  have hb : ∀ x, Anc (kD r a b c) x b ↔ x = r := fun x => by
    rw [anc_iff W (i := 2) (nd := ⟨b, [r]⟩) rfl x]
    constructor
    · rintro ⟨p, hp, e⟩
      simp at hp
      subst hp
      exact e.resolve_right (hr x)
    · rintro rfl
      exact ⟨_, by simp, .inl rfl⟩
  refine ⟨hr, ha, hb, fun x => ?_⟩
  rw [anc_iff W (i := 3) (nd := ⟨c, srt [a, b]⟩) rfl x]
  constructor
  · rintro ⟨p, hp, e⟩
    rw [mem_srt] at hp
    simp at hp
    rcases hp with rfl | rfl
    · rcases e with e | e
      · exact .inl e
      · exact .inr (.inr ((ha x).1 e))
    · rcases e with e | e
      · exact .inr (.inl e)
      · exact .inr (.inr ((hb x).1 e))
  · rintro (rfl | rfl | rfl)
    · exact ⟨_, mem_srt.2 (by simp), .inl rfl⟩
    · exact ⟨_, mem_srt.2 (by simp), .inl rfl⟩
    · exact ⟨a, mem_srt.2 (by simp), .inr ((ha _).2 rfl)⟩
include hra hrb hrc hab hac hbc in
theorem kAnti : antiL (kD r a b c) a = [b] := by
  obtain ⟨h1, h2, h3, h4⟩ := kAnc hra hrb hrc hab hac hbc
  refine SS_ext (SS_srt _) (by simp [SS]) fun x => ?_
  show x ∈ antiL (kD r a b c) a ↔ _
  unfold antiL
  rw [mem_pick, h2]
  constructor
  · rintro ⟨hx, _, n1, n2, n3⟩
    simp [ids] at hx
    rcases hx with rfl | rfl | rfl | rfl
    · exact absurd rfl n2
    · exact absurd rfl n1
    · simp
    · exact absurd ((h4 a).2 (.inl rfl)) n3
  · intro hx
    simp at hx
    subst hx
    refine ⟨by simp [ids], by simp [ids], fun e => hab e.symm, fun e => hrb e.symm, fun e => ?_⟩
    exact hra ((h3 a).1 e).symm
end

section
variable {w w' : World} {K : Value → World → Prop}
theorem known_ok (hK : ∀ w', Kept Nil w w' → K (.bool true) w') : Ret Tryd.prog law10_known.id #[] w K := by
  let r := hx 1 (by omega)
  let a := hx 2 (by omega)
  let b := hx 3 (by omega)
  let c := hx 4 (by omega)
  have hra : r ≠ a := hx_inj (by omega)
  have hrb : r ≠ b := hx_inj (by omega)
  have hrc : r ≠ c := hx_inj (by omega)
  have hab : a ≠ b := hx_inj (by omega)
  have hac : a ≠ c := hx_inj (by omega)
  have hbc : b ≠ c := hx_inj (by omega)
  refine law10_known.of ?_
  unfold law10_known.W
  intro w1 w2 w3 w4
  have k1' : Kept Nil w w1 := (Kept.refl _ _).alloc _
  have k2' : Kept Nil w1 w2 := (Kept.refl _ _).alloc _
  have k3' : Kept Nil w2 w3 := (Kept.refl _ _).alloc _
  have k4' : Kept Nil w3 w4 := (Kept.refl _ _).alloc _
  have hr1 := new_blk w (.cells (hx 0 (by omega)).1 T_api_Hash)
  have ha2 := new_blk w1 (.cells (hx 0 (by omega)).1 T_api_Hash)
  have hb3 := new_blk w2 (.cells (hx 0 (by omega)).1 T_api_Hash)
  have hc4 := new_blk w3 (.cells (hx 0 (by omega)).1 T_api_Hash)
  replace hr1 : w1.heap[w.heap.size]? = some (.cells (hx 0 (by omega)).1 T_api_Hash (0, 0)) := hr1
  replace ha2 : w2.heap[w1.heap.size]? = some (.cells (hx 0 (by omega)).1 T_api_Hash (0, 0)) := ha2
  replace hb3 : w3.heap[w2.heap.size]? = some (.cells (hx 0 (by omega)).1 T_api_Hash (0, 0)) := hb3
  replace hc4 : w4.heap[w3.heap.size]? = some (.cells (hx 0 (by omega)).1 T_api_Hash (0, 0)) := hc4
  clear_value w4
  have ha4 := k4'.heap (k3'.heap ha2 (fun h => h)) (fun h => h)
  have hb4 := k4'.heap hb3 (fun h => h)
  have hr4 := k4'.heap (k3'.heap (k2'.heap hr1 (fun h => h)) (fun h => h)) (fun h => h)
  have l1 := lt_blk hr1
  have l2 := lt_blk ha2
  have l3 := lt_blk hb3
  have l4 := lt_blk hc4
  clear_value w3
  clear_value w2
  clear_value w1
  have kw4 : Kept Nil w w4 := ((k1'.trans k2' (fun _ _ h => h)).trans k3' (fun _ _ h => h)).trans k4' (fun _ _ h => h)
  obtain ⟨wr7, hr7, k7⟩ := set_box hr4 (cs := r.1) rfl
  refine ⟨⟨r.2.1, r.2.one, fun j hj => wr7 j hj⟩, ?_⟩
  intro w7
  replace hr7 : w7.heap[w.heap.size]? = some (.cells r.1 T_api_Hash (0, 0)) := hr7
  replace k7 : Kept (· = w.heap.size) w4 w7 := k7
  clear_value w7
  have ha7 := k7.heap ha4 (by omega)
  have hb7 := k7.heap hb4 (by omega)
  have hc7 := k7.heap hc4 (by omega)
  obtain ⟨wr10, ha10, k10⟩ := set_box ha7 (cs := a.1) rfl
  refine ⟨⟨a.2.1, a.2.one, fun j hj => wr10 j hj⟩, ?_⟩
  intro w10
  replace ha10 : w10.heap[w1.heap.size]? = some (.cells a.1 T_api_Hash (0, 0)) := ha10
  replace k10 : Kept (· = w1.heap.size) w7 w10 := k10
  clear_value w10
  have hr10 := k10.heap hr7 (by omega)
  have hb10 := k10.heap hb7 (by omega)
  have hc10 := k10.heap hc7 (by omega)
  obtain ⟨wr13, hb13, k13⟩ := set_box hb10 (cs := b.1) rfl
  refine ⟨⟨b.2.1, b.2.one, fun j hj => wr13 j hj⟩, ?_⟩
  intro w13
  replace hb13 : w13.heap[w2.heap.size]? = some (.cells b.1 T_api_Hash (0, 0)) := hb13
  replace k13 : Kept (· = w2.heap.size) w10 w13 := k13
  clear_value w13
  have hr13 := k13.heap hr10 (by omega)
  have ha13 := k13.heap ha10 (by omega)
  have hc13 := k13.heap hc10 (by omega)
  obtain ⟨wr16, hc16, k16⟩ := set_box hc13 (cs := c.1) rfl
  refine ⟨⟨c.2.1, c.2.one, fun j hj => wr16 j hj⟩, ?_⟩
  intro w16
  replace hc16 : w16.heap[w3.heap.size]? = some (.cells c.1 T_api_Hash (0, 0)) := hc16
  replace k16 : Kept (· = w3.heap.size) w13 w16 := k16
  clear_value w16
  have hr16 := k16.heap hr13 (by omega)
  have ha16 := k16.heap ha13 (by omega)
  have hb16 := k16.heap hb13 (by omega)
  have kw16 : Kept Nil w w16 := (((kw4.trans k7 (fun k hk e => by omega)).trans k10 (fun k hk e => by omega)).trans k13 (fun k hk e => by omega)).trans k16 (fun k hk e => by omega)
  clear k7 k10 k13 k16 hr4 ha4 hb4 hr7 ha7 hb7 hc7 hr10 ha10 hb10 hc10 hr13 ha13 hb13 hc13 wr7 wr10 wr13 wr16
  have b1 := lt_blk hr16
  have b2 := lt_blk ha16
  have b3 := lt_blk hb16
  have b4 := lt_blk hc16
  refine ⟨r.1, ⟨r.2.1, Cells.blk hr16⟩, dag_New_ok r fun w19 g hG19 k19 => ⟨_, rfl, ?_⟩⟩
  have hr19 := k19.heap hr16 (fun h => h)
  have ha19 := k19.heap ha16 (fun h => h)
  have hb19 := k19.heap hb16 (fun h => h)
  have hc19 := k19.heap hc16 (fun h => h)
  refine ⟨a.1, ⟨a.2.1, Cells.blk ha19⟩, r.1, ⟨r.2.1, Cells.blk hr19⟩, r.2.1, ?_⟩
  intro w23
  have k23 : Kept Nil w19 w23 := (Kept.refl _ _).alloc _
  have hbox23 : HS w23 (some ⟨w19.heap.size, 0, none⟩) 1 [r] := hbox w19 r
  clear_value w23
  have hs19 := k19.size
  have hs23 := k23.size
  obtain ⟨bl, cc, mb, M, G23⟩ := hG19.same k23
  refine dag_Add G23 (WfD.root r) (by simp) hbox23 (by omega) a fun w25 S2 F2 hG25 k25 hS2 hF2 => ?_
  rw [(k1 hra).1]
  rw [(k1 hra).2] at hG25
  have kS2 : ∀ k, S2 k → w16.heap.size ≤ k := fun k hk => by
    rcases hS2 k hk with h | h
    · exact h.1
    · omega
  have nx : ∀ {S : Nat → Prop}, (∀ k, S k → w16.heap.size ≤ k) → ∀ {x : Nat}, x < w16.heap.size → ¬ S x := fun h _ hx e => by have := h _ e; omega
  refine ⟨0, rfl, Split.no rfl ?_⟩
  have kS1 : ∀ k, (w16.heap.size ≤ k ∧ k < w19.heap.size) → w16.heap.size ≤ k := fun k h => h.1
  have k1925 : Kept (fun k => w16.heap.size ≤ k) w16 w25 := ((k19.trans k23 (fun _ _ h => h)).mono (fun _ _ h => h.elim)).trans k25 (fun k _ h => h.1)
  have hr25 := k1925.heap hr16 (by omega)
  have ha25 := k1925.heap ha16 (by omega)
  have hb25 := k1925.heap hb16 (by omega)
  have hc25 := k1925.heap hc16 (by omega)
  refine ⟨b.1, ⟨b.2.1, Cells.blk hb25⟩, r.1, ⟨r.2.1, Cells.blk hr25⟩, r.2.1, ?_⟩
  intro w29
  have k29 : Kept Nil w25 w29 := (Kept.refl _ _).alloc _
  have hbox29 : HS w29 (some ⟨w25.heap.size, 0, none⟩) 1 [r] := hbox w25 r
  clear_value w29
  have hs25 := k1925.size
  have hs29 := k29.size
  have W1 := (WfD.root r).add a [r]
  rw [(k1 hra).2] at W1
  obtain ⟨bl, cc, mb, M, G29⟩ := hG25.same k29
  refine dag_Add G29 W1 (by simp) hbox29 (by omega) b fun w31 S3 F3 hG31 k31 hS3 hF3 => ?_
  rw [(k2 hrb hab).1]
  rw [(k2 hrb hab).2] at hG31
  have kS3 : ∀ k, S3 k → w16.heap.size ≤ k := fun k hk => by
    rcases hS3 k hk with h | h
    · exact kS2 k h
    · omega
  refine ⟨0, rfl, Split.no rfl ?_⟩
  have k1931 : Kept (fun k => w16.heap.size ≤ k) w16 w31 := (k1925.trans k29 (fun _ _ h => h.elim)).trans k31 (fun k _ h => kS2 k h)
  have hr31 := k1931.heap hr16 (by omega)
  have ha31 := k1931.heap ha16 (by omega)
  have hb31 := k1931.heap hb16 (by omega)
  have hc31 := k1931.heap hc16 (by omega)
  refine ⟨c.1, ⟨c.2.1, Cells.blk hc31⟩, a.1, ⟨a.2.1, Cells.blk ha31⟩, b.1, ⟨b.2.1, Cells.blk hb31⟩, a.2.1, b.2.1, ?_⟩
  intro w36
  have k36 : Kept Nil w31 w36 := (Kept.refl _ _).alloc _
  have hbox36 : HS w36 (some ⟨w31.heap.size, 0, none⟩) 2 [a, b] := by
    refine HS.lay (l := [a, b]) (t := T_api_Hash) ?_
    exact new_blk w31 (.cells (hcells [a, b]).toArray T_api_Hash)
  clear_value w36
  have hs31 := k1931.size
  have hs36 := k36.size
  have W2 := W1.add b [r]
  rw [(k2 hrb hab).2] at W2
  obtain ⟨bl, cc, mb, M, G36⟩ := hG31.same k36
  refine dag_Add G36 W2 (by simp) hbox36 (by omega) c fun w38 S4 F4 hG38 k38 hS4 hF4 => ?_
  rw [(k3 hrc hab hac hbc).1]
  rw [(k3 hrc hab hac hbc).2] at hG38
  have W3 := kW hra hrb hrc hab hac hbc
  obtain ⟨hA1, hA2, hA3, hA4⟩ := kAnc hra hrb hrc hab hac hbc
  refine ⟨0, rfl, Split.no rfl ?_⟩
  have k1938 : Kept (fun k => w16.heap.size ≤ k) w16 w38 := (k1931.trans k36 (fun _ _ h => h.elim)).trans k38 (fun k _ h => kS3 k h)
  have hr38 := k1938.heap hr16 (by omega)
  have ha38 := k1938.heap ha16 (by omega)
  have hb38 := k1938.heap hb16 (by omega)
  have hc38 := k1938.heap hc16 (by omega)
  have kw38 : Kept Nil w w38 := kw16.trans k1938 (fun k hk e => by have := kw16.size; omega)
  obtain ⟨bl, cc, mb, M, G38⟩ := hG38
  refine ⟨a.1, ⟨a.2.1, Cells.blk ha38⟩, dag_Anticone G38 W3 (by simp) a fun A42 c42 w42 row42 k42 => ⟨A42, _, c42, rfl, ?_⟩⟩
  rw [kAnti hra hrb hrc hab hac hbc] at row42 ⊢
  intro w44
  have k44 : Kept Nil w38 w44 := k42.drew
  have row44 : HRow w44 w38.heap.size A42 1 c42 [b] := Row.keep row42 ((Kept.refl Nil w42).drew) (fun _ _ h => h)
  clear_value w44
  refine Split.yes rfl (row44.hs.load (i := 0) (by omega) rfl ⟨b.1, ⟨b.2.1, Cells.blk (k44.heap hb38 (fun h => h))⟩, ⟨b.2.ints, b.2.ints⟩, ?_⟩)
  rw [sameInts_eq]
  refine Split.yes (decide_eq_true rfl) ⟨r.1, ⟨r.2.1, Cells.blk (k44.heap hr38 (fun h => h))⟩, c.1, ⟨c.2.1, Cells.blk (k44.heap hc38 (fun h => h))⟩, dag_Before (G38.same k44) W3 (by simp) r c fun w51 x hx51 k51 => ⟨x, rfl, ?_⟩⟩
  have hx' : x = true := hx51.2 ((hA4 r).2 (.inr (.inr rfl)))
  subst hx'
  have k51' := k44.trans k51 (fun _ _ h => h)
  refine Split.yes rfl ⟨a.1, ⟨a.2.1, Cells.blk (k51'.heap ha38 (fun h => h))⟩, b.1, ⟨b.2.1, Cells.blk (k51'.heap hb38 (fun h => h))⟩, dag_Before (G38.same k51') W3 (by simp) a b fun w56 y hy56 k56 => ⟨y, rfl, ?_⟩⟩
  have hy' : y = false := by
    cases y with
    | false => rfl
    | true => exact absurd ((hA3 a).1 (hy56.1 rfl)).symm hra
  subst hy'
  exact hK w56 ((kw38.trans k51' (fun _ _ h => h)).trans k56 (fun _ _ h => h))
end
end Go.Proofs.YtljckpecmlnbiaaDoor
/-
  Both graphs side by side; begin.
-/
namespace Go.Proofs.YtljckpecmlnbiaaDoor
open Go Go.Lite Go.RowKit

/-- the program's graph and the document's, the same, apart in memory -/
structure Both (w : World) (S F : Nat → Prop) (g : Nat) (FR : Nat → Prop) (r : Nat) (D : DG) : Prop where
  G : IsG w S F g D
  R : IsR w FR r D
  rS : ¬ S r
  rF : ¬ F r
  fS : ∀ k, FR k → ¬ S k
  low : ∀ k, FR k → k < w.heap.size
def buildD (root : HT) (l : List DN) : DG := l.foldl (fun D nd => addD D nd.id nd.ps) [⟨root, []⟩]
theorem buildD_W (root : HT) (l : List DN) : WfD (buildD root l) := by
  have key : ∀ (l : List DN) (D : DG), WfD D → WfD (l.foldl (fun D nd => addD D nd.id nd.ps) D) := fun l => by
    induction l with
    | nil => exact fun D h => h
    | cons nd l ih => exact fun D h => ih _ (h.add nd.id nd.ps)
  exact key l _ (WfD.root root)
theorem addAll_len : ∀ (l : List DN) (D : DG), (l.foldl (fun D nd => addD D nd.id nd.ps) D).length ≤ D.length + l.length
  | [], D => Nat.le_refl _
  | nd :: l, D => by
    have h1 := addAll_len l (addD D nd.id nd.ps)
    have h2 := addD_len D nd.id nd.ps
    rw [List.foldl_cons, List.length_cons]
    omega
theorem buildD_len (root : HT) (l : List DN) : (buildD root l).length ≤ 1 + l.length := by
  have := addAll_len l [⟨root, []⟩]
  simpa [buildD] using this
theorem addAll_snoc {D : DG} {l : List DN} {i : Nat} {nd : DN} (h : l[i]? = some nd) : (l.take (i + 1)).foldl (fun D nd => addD D nd.id nd.ps) D = addD ((l.take i).foldl (fun D nd => addD D nd.id nd.ps) D) nd.id nd.ps := by
  rw [List.take_add_one, h]
  simp

section
variable {w v w' : World} {S F S2 F2 FR : Nat → Prop} {g r : Nat} {D D' : DG} {K : Value → World → Prop}
theorem Both.keep {S0 : Nat → Prop} (B : Both w S F g FR r D) (k : Kept S0 w w') (hS : ∀ k, S k → ¬ S0 k) (hF : ∀ k, F k → ¬ S0 k) (hr : ¬ S0 r) (hR : ∀ k, FR k → ¬ S0 k) : Both w' S F g FR r D :=
  ⟨B.G.keep k hS hF, B.R.keep k hr hR, B.rS, B.rF, B.fS, fun k' h => Nat.lt_of_lt_of_le (B.low k' h) k.size⟩
theorem Both.same (B : Both w S F g FR r D) (k : Kept Nil w w') : Both w' S F g FR r D := B.keep k (fun _ _ h => h) (fun _ _ h => h) (fun h => h) (fun _ _ h => h)
/-- behind the program's Add, and then the document's -/
theorem Both.after (B : Both w S F g FR r D) (kv : Kept S w v) (hS2 : ∀ k, S2 k → S k ∨ w.heap.size ≤ k) (hF2 : ∀ k, F2 k → F k ∨ w.heap.size ≤ k) (hG2 : IsG v S2 F2 g D') :
    IsR v FR r D ∧ ∀ u, IsR u (fun k => FR k ∨ (v.heap.size ≤ k ∧ k < u.heap.size)) r D' → Kept (· = r) v u → Both u S2 F2 g (fun k => FR k ∨ (v.heap.size ≤ k ∧ k < u.heap.size)) r D' := by
  have hr := B.R.lt
  have nS : ¬ S2 r := fun e => by
    rcases hS2 r e with h | h
    · exact B.rS h
    · omega
  have nF : ¬ F2 r := fun e => by
    rcases hF2 r e with h | h
    · exact B.rF h
    · omega
  refine ⟨B.R.keep kv B.rS B.fS, fun u hu ku => ⟨hG2.keep ku (fun k hk e => nS (e ▸ hk)) (fun k hk e => nF (e ▸ hk)), hu, nS, nF, fun k hk hs => ?_, fun k hk => ?_⟩⟩
  · rcases hk with hk | ⟨hk, _⟩
    · rcases hS2 k hs with h | h
      · exact B.fS k hk h
      · have := B.low k hk; omega
    · obtain ⟨bl, c, mb, M, G⟩ := hG2
      have := G.low k (.inl hs)
      omega
  · rcases hk with hk | hk
    · have := B.low k hk
      have := kv.size
      have := ku.size
      omega
    · exact hk.2

/-- the steps, at the beginning -/
def BI (w : World) (root : HT) (l : List DN) (g r : Nat) : Option Addr × Option Addr × Bool × Int → World → Prop := fun s v => ∃ (i : Nat) (S F FR : Nat → Prop), s = (none, none, false, (i : Int)) ∧ i ≤ l.length ∧ Both v S F g FR r (buildD root (l.take i)) ∧ Kept Nil w v ∧ (∀ k, S k → w.heap.size ≤ k) ∧ (∀ k, F k → w.heap.size ≤ k) ∧ (∀ k, FR k → w.heap.size ≤ k) ∧ w.heap.size ≤ r
theorem begin_round {FP : Nat → Prop} {A : Option Addr} {n c : Nat} {l : List DN} (hl : NS w FP A n l) (hn : n ≤ 1000) (hps : ∀ nd ∈ l, nd.ps.length ≤ 8) (root : HT)
    (hK : ∀ v S F FR, Both v S F g FR r (buildD root l) → Kept Nil w v → (∀ k, S k → w.heap.size ≤ k) → (∀ k, F k → w.heap.size ≤ k) → (∀ k, FR k → w.heap.size ≤ k) → w.heap.size ≤ r → K (.tuple #[.pointer (some ⟨g, 0, none⟩), .pointer (some ⟨r, 0, none⟩), .bool true]) v) (s : Option Addr × Option Addr × Bool × Int) (v : World) (hI : BI w root l g r s v) :
    law10_begin.B1 A n c s.1 s.2.1 s.2.2.1 (some ⟨g, 0, none⟩) ⟨r, 0, none⟩ s.2.2.2 (roundQ (law10_begin.e1 A n c (some ⟨g, 0, none⟩) ⟨r, 0, none⟩) (BI w root l g r) (fun s _ => ((n : Int) - s.2.2.2).toNat) s v (law10_begin.q1 K)) v := by
  obtain ⟨i, S, F, FR, rfl, hi, B, kv, nS, nF, nR, nr⟩ := hI
  have hlen := hl.len
  unfold law10_begin.B1
  refine Split.dec (fun hil0 => ?_) (fun hge => ?_)
  · simp only at hil0
    have hil : i < n := by omega
    obtain ⟨nd, hnd⟩ : ∃ nd, l[i]? = some nd := ⟨_, List.getElem?_eq_getElem (by omega)⟩
    have hnd' : l[(i : Int).toNat]? = some nd := by rw [Int.toNat_natCast]; exact hnd
    have hpl := hps nd (List.mem_of_getElem? hnd)
    intro w29
    have k29 : Kept Nil v w29 := (Kept.refl _ _).drew
    clear_value w29
    have kw29 := kv.trans k29 (fun _ _ h => h)
    have hl29 := hl.keep kw29 (fun _ _ h => h)
    refine hl29.id (i := (i : Int)) (by omega) hnd' ?_
    obtain ⟨a, pA, pn, pc, hA, ha2, _, ha4, hps4, _⟩ := hl.at_ i nd hnd
    subst hA
    have hcell : ∀ {u : World}, Kept Nil w u → u.cell? ((a.add ((i : Int).toNat * 33)).add 32) = some (.slice pA pn pc) := fun k => by
      rw [Int.toNat_natCast]
      exact k.cell (ha4 32 _ (push_last _ _)) (fun h => h)
    have hcs : ∀ {u : World}, Kept Nil w u → Cells u ((a.add ((i : Int).toNat * 33)).add 0) nd.id.1 := fun k j x hj => by
      rw [Int.toNat_natCast, add_zero]
      exact k.cell (ha4 j x (push_get hj)) (fun h => h)
    have hb : 0 ≤ (i : Int) ∧ (i : Int) < (n : Int) := ⟨by omega, by omega⟩
    have hpn := hps4.len
    refine ⟨hb, pA, pn, pc, hcell kw29, hb, nd.id.1, ⟨nd.id.2.1, hcs kw29⟩, hb, pA, pn, pc, hcell kw29, ?_⟩
    have hDl := buildD_len root (l.take i)
    rw [List.length_take] at hDl
    have W := buildD_W root (l.take i)
    have B29 := B.same k29
    obtain ⟨bl, cc, mb, M, G29⟩ := B29.G
    refine dag_Add G29 W (by omega) (hps4.same kw29) (by omega) nd.id fun w39 S2 F2 hG39 k39 hS2 hF2 => ⟨_, rfl, ?_⟩
    have hs29 := kw29.size
    have kw39 : Kept Nil w w39 := kw29.trans k39 (fun k hk h => absurd (nS k h) (by omega))
    have hs39 := kw39.size
    obtain ⟨R39, hafter⟩ := B29.after k39 hS2 hF2 hG39
    refine ⟨hcell kw39, ⟨nd.id.1, rfl, nd.id.2.1, hcs kw39⟩, ref_Add R39 W (by omega) (hps4.same kw39) (by omega) fun w42 R42 k42 => ⟨_, rfl, ?_⟩⟩
    refine Split.no (by simp) ?_
    rw [wrapP (n := (i : Int)) (by omega) (by omega)]
    refine ⟨(none, none, false, (i : Int) + 1), rfl, ⟨i + 1, S2, F2, fun k => FR k ∨ (w39.heap.size ≤ k ∧ k < w42.heap.size), rfl, by omega, ?_, kw39.trans k42 (fun k hk e => by omega), fun k hk => ?_, fun k hk => ?_, fun k hk => ?_, nr⟩, by simp only; omega⟩
    · have e : buildD root (l.take (i + 1)) = addD (buildD root (l.take i)) nd.id nd.ps := addAll_snoc hnd
      rw [e]
      exact hafter w42 R42 k42
    · rcases hS2 k hk with h | h
      · exact nS k h
      · omega
    · rcases hF2 k hk with h | h
      · exact nF k h
      · omega
    · rcases hk with h | h
      · exact nR k h
      · omega
  · simp only at hge
    have : i = l.length := by omega
    subst this
    rw [roundQ_exit, law10_begin.x1_0]
    rw [List.take_of_length_le (Nat.le_refl _)] at B
    exact hK v S F FR B kv nS nF nR nr

theorem builtRef (h : HT) : Tryd.prog.built T_plexusref10_Node [(0, .agg h.1)] = some (h.1.push (.slice none 0 0)) := by
  have hs := h.2.1
  rw [built_of bldNode, fill_part (off := 0) (size := 32) rfl (by simpa [Value.cells] using hs) (by simp)]
  simp only [Instr.fill, Option.some.injEq]
  apply Array.ext'
  unfold splice
  simp [Value.cells, hs]
/-- the document's graph of a root -/
theorem refRoot {h : HT} {sb rb : Nat} (h1 : v.heap[sb]? = some (.cells (h.1.push (.slice none 0 0)) T_plexusref10_Node (0, 0))) (h2 : v.heap[rb]? = some (.cells #[.slice (some ⟨sb, 0, none⟩) 1 1] T_plexusref10_Graph (0, 0))) : IsR v (fun k => k = sb) rb [⟨h, []⟩] :=
  ⟨⟨some ⟨sb, 0, none⟩, 1, h2, rfl, fun i nd hi => by
    cases i with
    | zero =>
      simp at hi
      subst hi
      refine ⟨_, none, 0, 0, rfl, lt_blk h1, rfl, fun j u hj => ?_, HS.nil _ _, fun b hb => by cases hb⟩
      rw [Nat.zero_mul, add_zero, add_at, Nat.zero_add, cell_blk h1]
      exact hj
    | succ i => simp at hi⟩, ne_typ h2 h1 (by decide)⟩

theorem begin_ok {FP : Nat → Prop} {A : Option Addr} {n c : Nat} {l : List DN} (hl : NS w FP A n l) (hn : n ≤ 1000) (hps : ∀ nd ∈ l, nd.ps.length ≤ 8) (root : HT)
    (hK : ∀ v S F g FR r, Both v S F g FR r (buildD root l) → Kept Nil w v → (∀ k, S k → w.heap.size ≤ k) → (∀ k, F k → w.heap.size ≤ k) → (∀ k, FR k → w.heap.size ≤ k) → w.heap.size ≤ r → K (.tuple #[.pointer (some ⟨g, 0, none⟩), .pointer (some ⟨r, 0, none⟩), .bool true]) v) :
    Ret Tryd.prog law10_begin.id #[.agg root.1, .slice A n c] w K := by
  refine law10_begin.of ?_
  unfold law10_begin.W
  intro w3 w4
  have hb4 : w4.heap[w.heap.size]? = some (.cells root.1 T_api_Hash (0, 0)) := new_blk w _
  have k4 : Kept Nil w w4 := ((Kept.refl Nil w).alloc (.cells root.1 T_api_Hash)).drew
  clear_value w4
  have hs4 := k4.size
  refine ⟨root.1, ⟨root.2.1, Cells.blk hb4⟩, root.1, ⟨root.2.1, Cells.blk hb4⟩, ?_⟩
  rw [builtRef]
  refine Is.mk rfl ?_
  have hsz : (root.1.push (.slice none 0 0)).size = 33 := by rw [Array.size_push, root.2.1]
  have hnode : ∀ (u : World), (u.alloc (.cells ((root.1.push (.slice none 0 0)).toList ++ []).toArray T_plexusref10_Node)).heap[u.heap.size]? = some (.cells (root.1.push (.slice none 0 0)) T_plexusref10_Node (0, 0)) := fun u => by
    rw [List.append_nil, Array.toArray_toList]
    exact new_blk u _
  have hcs : ∀ {u : World}, Kept Nil w4 u → ∃ cs : Array Value, (.agg root.1 : Value) = .agg cs ∧ cs.size = 32 ∧ Cells u (⟨w.heap.size, 0, none⟩ : Addr) cs := fun k => ⟨root.1, rfl, root.2.1, Cells.blk (k.heap hb4 (fun h => h))⟩
  have hround := fun g r => begin_round (c := c) hl hn hps root (hK := fun v S F FR B k h1 h2 h3 h4 => hK v S F g FR r B k h1 h2 h3 h4)
  have hinit : ∀ (v : World) (S : Nat → Prop) (g sb rb : Nat), IsG v S (fun _ => False) g [⟨root, []⟩] → v.heap[sb]? = some (.cells (root.1.push (.slice none 0 0)) T_plexusref10_Node (0, 0)) → v.heap[rb]? = some (.cells #[.slice (some ⟨sb, 0, none⟩) 1 1] T_plexusref10_Graph (0, 0)) →
      Kept Nil w v → (∀ k, S k → w.heap.size ≤ k) → ¬ S sb → ¬ S rb → w.heap.size ≤ sb → w.heap.size ≤ rb → BI w root l g rb (none, none, false, 0) v := fun v S g sb rb hG h1 h2 k hS n1 n2 m1 m2 =>
    ⟨0, S, fun _ => False, fun k => k = sb, rfl, Nat.zero_le _, ⟨hG, refRoot h1 h2, n2, fun h => h, fun k e => by rw [e]; exact n1, fun k e => by rw [e]; exact lt_blk h1⟩, k, hS, fun k h => h.elim, fun k e => by rw [e]; exact m1, m2⟩
  refine ⟨?_, ?_⟩
  · refine dag_New_ok root fun w9 g hG9 k9 => ⟨_, rfl, hcs k9, hsz, ?_⟩
    intro w11 w12
    have h11 : w11.heap[w9.heap.size]? = some (.cells (root.1.push (.slice none 0 0)) T_plexusref10_Node (0, 0)) := hnode w9
    have k11 : Kept Nil w9 w11 := (Kept.refl _ _).alloc _
    have h12 : w12.heap[w11.heap.size]? = some (.cells #[.slice (some ⟨w9.heap.size, 0, none⟩) 1 1] T_plexusref10_Graph (0, 0)) := new_blk w11 _
    have k12 : Kept Nil w11 w12 := (Kept.refl _ _).alloc _
    clear_value w12
    have h112 := k12.heap h11 (fun h => h)
    have k912 : Kept Nil w9 w12 := k11.trans k12 (fun _ _ h => h)
    have s9 := k9.size
    have s11 := k11.size
    clear_value w11
    refine law10_begin.loop1 (I := BI w root l g w11.heap.size) (μ := fun s _ => ((n : Int) - s.2.2.2).toNat) (s := (none, none, false, 0)) ?_ (hround g w11.heap.size)
    exact hinit w12 _ g w9.heap.size w11.heap.size (hG9.same k912) h112 h12 ((k4.trans k9 (fun _ _ h => h)).trans k912 (fun _ _ h => h)) (fun k h => by have := h.1; omega) (fun h => by have := h.2; omega) (fun h => by have := h.2; omega) (by omega) (by omega)
  · refine ⟨hsz, ?_⟩
    intro w13
    have h13 : w13.heap[w4.heap.size]? = some (.cells (root.1.push (.slice none 0 0)) T_plexusref10_Node (0, 0)) := hnode w4
    have k13 : Kept Nil w4 w13 := (Kept.refl _ _).alloc _
    clear_value w13
    have l13 := lt_blk h13
    refine ⟨hcs k13, ?_, ?_⟩
    · refine dag_New_ok root fun w15 g hG15 k15 => ⟨_, rfl, ?_⟩
      intro w17
      have h17 : w17.heap[w15.heap.size]? = some (.cells #[.slice (some ⟨w4.heap.size, 0, none⟩) 1 1] T_plexusref10_Graph (0, 0)) := new_blk w15 _
      have k17 : Kept Nil w15 w17 := (Kept.refl _ _).alloc _
      clear_value w17
      have h1317 := k17.heap (k15.heap h13 (fun h => h)) (fun h => h)
      have s15 := k15.size
      refine law10_begin.loop1 (I := BI w root l g w15.heap.size) (μ := fun s _ => ((n : Int) - s.2.2.2).toNat) (s := (none, none, false, 0)) ?_ (hround g w15.heap.size)
      exact hinit w17 _ g w4.heap.size w15.heap.size (hG15.same k17) h1317 h17 (((k4.trans k13 (fun _ _ h => h)).trans k15 (fun _ _ h => h)).trans k17 (fun _ _ h => h)) (fun k h => by have := h.1; omega) (fun h => by have := h.1; omega) (fun h => by have := h.2; omega) (by omega) (by omega)
    · intro w18
      have h18 : w18.heap[w13.heap.size]? = some (.cells #[.slice (some ⟨w4.heap.size, 0, none⟩) 1 1] T_plexusref10_Graph (0, 0)) := new_blk w13 _
      have k18 : Kept Nil w13 w18 := (Kept.refl _ _).alloc _
      clear_value w18
      have l18 := lt_blk h18
      refine ⟨hcs (k13.trans k18 (fun _ _ h => h)), dag_New_ok root fun w20 g hG20 k20 => ⟨_, rfl, ?_⟩⟩
      have h1320 := k20.heap (k18.heap h13 (fun h => h)) (fun h => h)
      have h1820 := k20.heap h18 (fun h => h)
      refine law10_begin.loop1 (I := BI w root l g w13.heap.size) (μ := fun s _ => ((n : Int) - s.2.2.2).toNat) (s := (none, none, false, 0)) ?_ (hround g w13.heap.size)
      exact hinit w20 _ g w4.heap.size w13.heap.size hG20 h1320 h1820 (((k4.trans k13 (fun _ _ h => h)).trans k18 (fun _ _ h => h)).trans k20 (fun _ _ h => h)) (fun k h => by have := h.1; omega) (fun h => by have := h.1; omega) (fun h => by have := h.1; omega) (by omega) (by omega)
end
end Go.Proofs.YtljckpecmlnbiaaDoor
/-
  looks: one looks the same in both.
-/
namespace Go.Proofs.YtljckpecmlnbiaaDoor
open Go Go.Lite Go.RowKit

theorem WfD.ps_len {D : DG} (W : WfD D) : ∀ nd ∈ D, nd.ps.length ≤ D.length := fun nd hnd => by
  obtain ⟨i, hi⟩ := List.mem_iff_getElem?.1 hnd
  rw [← ids_len D]
  exact nodup_len (W.ss nd hnd).nodup fun x hx => (Anc.mem W (.one ((par_at W hi x).2 hx))).1
theorem pick_no {D : DG} {is : HT → Prop} (h : ∀ a, ¬ is a) : pick D is = [] := by
  cases hc : pick D is with
  | nil => rfl
  | cons b l => exact absurd (mem_pick.1 (show b ∈ pick D is by rw [hc]; simp)).2 (h b)

section
variable {w w' : World} {S F FR : Nat → Prop} {g r : Nat} {D : DG} {K : Value → World → Prop}
/-- the last part -/
theorem looks_J3 (B : Both w S F g FR r D) (W : WfD D) (hD : D.length ≤ 5000) (hT : Tab w) {ib : Nat} {h : HT} (hi : w.heap[ib]? = some (.cells h.1 T_api_Hash (0, 0))) (hK : ∀ w', Kept Nil w w' → K (.bool true) w') :
    law10_looks.J3 (some ⟨g, 0, none⟩) (some ⟨r, 0, none⟩) ⟨ib, 0, none⟩ K w := by
  obtain ⟨bl, c, mb, M, G⟩ := B.G
  have hG : ∀ {v : World}, Kept Nil w v → GV v S F g D (childL D) bl c mb M := fun k => G.same k
  have hR : ∀ {v : World}, Kept Nil w v → IsR v FR r D := fun k => B.R.same k
  have hbx : ∀ {v : World}, (False → False) → Kept Nil w v → Cells v ⟨ib, 0, none⟩ h.1 := fun _ k => Cells.blk (k.heap hi (fun h => h))
  have hcs : ∀ {v : World}, Kept Nil w v → ∃ cs : Array Value, (.agg h.1 : Value) = .agg cs ∧ cs.size = 32 ∧ Cells v (⟨ib, 0, none⟩ : Addr) cs := fun k => ⟨h.1, rfl, h.2.1, hbx (fun h => h) k⟩
  have p1 := pick_len D fun a => ∃ x ∈ [h], Anc D a x
  have p2 := pick_len D fun a => Anc D h a
  have p3 := pick_len D fun a => h ∈ ids D ∧ a ≠ h ∧ ¬ Anc D a h ∧ ¬ Anc D h a
  change (pastsL D [h]).length ≤ _ at p1
  change (futureL D h).length ≤ _ at p2
  change (antiL D h).length ≤ _ at p3
  unfold law10_looks.J3
  intro w63
  have k63 : Kept Nil w w63 := (Kept.refl _ _).drew
  clear_value w63
  refine ⟨h.1, ⟨h.2.1, hbx (fun h => h) k63⟩, h.1, ⟨h.2.1, hbx (fun h => h) k63⟩, ⟨h.2.1, ?_⟩, ⟨h.2.1, ?_⟩⟩
  · intro w66
    have k66 : Kept Nil w63 w66 := (Kept.refl _ _).alloc _
    have hx66 : HS w66 (some ⟨w63.heap.size, 0, none⟩) 1 [h] := hbox w63 h
    clear_value w66
    have k66' := k63.trans k66 (fun _ _ h => h)
    refine ⟨hcs k66', ?_, ?_⟩
    · refine dag_Past (hG k66') W (by omega) (hT.same k66') hx66 (by omega) fun A68 c68 w68 row68 k68 => ⟨A68, _, c68, rfl, ?_⟩
      have k68' := k66'.trans k68 (fun _ _ h => h)
      refine ⟨hcs k68', h.2.1, ?_⟩
      intro w70
      have k70 : Kept Nil w68 w70 := (Kept.refl _ _).alloc _
      have hx70 : HS w70 (some ⟨w68.heap.size, 0, none⟩) 1 [h] := hbox w68 h
      clear_value w70
      have k70' := k68'.trans k70 (fun _ _ h => h)
      refine ref_Past (hR k70') W (by omega) hx70 (by omega) fun A72 c72 w72 row72 k72 => ⟨A72, _, c72, rfl, ?_⟩
      have k72' := k70'.trans k72 (fun _ _ h => h)
      refine ref_Equal (HRow.hs (Row.keep row68 (k70.trans k72 (fun _ _ h => h)) (fun _ _ h => h))) row72.hs (by omega) fun w75 k75 => ⟨_, rfl, ?_⟩
      replace k75 := k72'.trans k75 (fun _ _ h => h)
      refine Split.yes (decide_eq_true rfl) ⟨h.1, ⟨h.2.1, hbx (fun h => h) k75⟩, h.1, ⟨h.2.1, hbx (fun h => h) k75⟩, ?_⟩
      refine dag_Future (hG k75) W (by omega) h fun A80 c80 w80 row80 k80 => ⟨A80, _, c80, rfl, ?_⟩
      have k80' := k75.trans k80 (fun _ _ h => h)
      refine ⟨hcs k80', ref_Future (hR k80') W (by omega) h fun A83 c83 w83 row83 k83 => ⟨A83, _, c83, rfl, ?_⟩⟩
      have k83' := k80'.trans k83 (fun _ _ h => h)
      refine ref_Equal (HRow.hs (Row.keep row80 k83 (fun _ _ h => h))) row83.hs (by omega) fun w86 k86 => ⟨_, rfl, ?_⟩
      have k86' := k83'.trans k86 (fun _ _ h => h)
      refine Split.yes (decide_eq_true rfl) ⟨h.1, ⟨h.2.1, hbx (fun h => h) k86'⟩, h.1, ⟨h.2.1, hbx (fun h => h) k86'⟩, ?_⟩
      refine dag_Anticone (hG k86') W (by omega) h fun A91 c91 w91 row91 k91 => ⟨A91, _, c91, rfl, ?_⟩
      have k91' := k86'.trans k91 (fun _ _ h => h)
      refine ⟨hcs k91', ref_Anticone (hR k91') W (by omega) h fun A94 c94 w94 row94 k94 => ⟨A94, _, c94, rfl, ?_⟩⟩
      have k94' := k91'.trans k94 (fun _ _ h => h)
      refine ref_Equal (HRow.hs (Row.keep row91 k94 (fun _ _ h => h))) row94.hs (by omega) fun w97 k97 => ⟨_, rfl, ?_⟩
      rw [decide_eq_true rfl]
      exact hK w97 (k94'.trans k97 (fun _ _ h => h))
    · refine ⟨h.2.1, ?_⟩
      intro w99
      have k99 : Kept Nil w66 w99 := (Kept.refl _ _).alloc _
      have hx99 : HS w99 (some ⟨w66.heap.size, 0, none⟩) 1 [h] := hbox w66 h
      clear_value w99
      have k99' := k66'.trans k99 (fun _ _ h => h)
      refine dag_Past (hG k99') W (by omega) (hT.same k99') (hx66.same k99) (by omega) fun A68 c68 w68 row68 k68 => ⟨A68, _, c68, rfl, ?_⟩
      have k68' := k99'.trans k68 (fun _ _ h => h)
      refine ref_Past (hR k68') W (by omega) (hx99.same k68) (by omega) fun A72 c72 w72 row72 k72 => ⟨A72, _, c72, rfl, ?_⟩
      have k72' := k68'.trans k72 (fun _ _ h => h)
      refine ref_Equal (HRow.hs (Row.keep row68 k72 (fun _ _ h => h))) row72.hs (by omega) fun w75 k75 => ⟨_, rfl, ?_⟩
      replace k75 := k72'.trans k75 (fun _ _ h => h)
      refine Split.yes (decide_eq_true rfl) ⟨h.1, ⟨h.2.1, hbx (fun h => h) k75⟩, h.1, ⟨h.2.1, hbx (fun h => h) k75⟩, ?_⟩
      refine dag_Future (hG k75) W (by omega) h fun A80 c80 w80 row80 k80 => ⟨A80, _, c80, rfl, ?_⟩
      have k80' := k75.trans k80 (fun _ _ h => h)
      refine ⟨hcs k80', ref_Future (hR k80') W (by omega) h fun A83 c83 w83 row83 k83 => ⟨A83, _, c83, rfl, ?_⟩⟩
      have k83' := k80'.trans k83 (fun _ _ h => h)
      refine ref_Equal (HRow.hs (Row.keep row80 k83 (fun _ _ h => h))) row83.hs (by omega) fun w86 k86 => ⟨_, rfl, ?_⟩
      have k86' := k83'.trans k86 (fun _ _ h => h)
      refine Split.yes (decide_eq_true rfl) ⟨h.1, ⟨h.2.1, hbx (fun h => h) k86'⟩, h.1, ⟨h.2.1, hbx (fun h => h) k86'⟩, ?_⟩
      refine dag_Anticone (hG k86') W (by omega) h fun A91 c91 w91 row91 k91 => ⟨A91, _, c91, rfl, ?_⟩
      have k91' := k86'.trans k91 (fun _ _ h => h)
      refine ⟨hcs k91', ref_Anticone (hR k91') W (by omega) h fun A94 c94 w94 row94 k94 => ⟨A94, _, c94, rfl, ?_⟩⟩
      have k94' := k91'.trans k94 (fun _ _ h => h)
      refine ref_Equal (HRow.hs (Row.keep row91 k94 (fun _ _ h => h))) row94.hs (by omega) fun w97 k97 => ⟨_, rfl, ?_⟩
      rw [decide_eq_true rfl]
      exact hK w97 (k94'.trans k97 (fun _ _ h => h))
  · intro w131
    have k131 : Kept Nil w63 w131 := (Kept.refl _ _).alloc _
    have hx131 : HS w131 (some ⟨w63.heap.size, 0, none⟩) 1 [h] := hbox w63 h
    clear_value w131
    have k131' := k63.trans k131 (fun _ _ h => h)
    refine ⟨hcs k131', h.2.1, ?_⟩
    intro w132
    have k132 : Kept Nil w131 w132 := (Kept.refl _ _).alloc _
    have hx132 : HS w132 (some ⟨w131.heap.size, 0, none⟩) 1 [h] := hbox w131 h
    clear_value w132
    have k132' := k131'.trans k132 (fun _ _ h => h)
    refine dag_Past (hG k132') W (by omega) (hT.same k132') hx132 (by omega) fun A68 c68 w68 row68 k68 => ⟨A68, _, c68, rfl, ?_⟩
    have k68' := k132'.trans k68 (fun _ _ h => h)
    refine ref_Past (hR k68') W (by omega) ((hx131.same k132).same k68) (by omega) fun A72 c72 w72 row72 k72 => ⟨A72, _, c72, rfl, ?_⟩
    have k72' := k68'.trans k72 (fun _ _ h => h)
    refine ref_Equal (HRow.hs (Row.keep row68 k72 (fun _ _ h => h))) row72.hs (by omega) fun w75 k75 => ⟨_, rfl, ?_⟩
    replace k75 := k72'.trans k75 (fun _ _ h => h)
    refine Split.yes (decide_eq_true rfl) ⟨h.1, ⟨h.2.1, hbx (fun h => h) k75⟩, h.1, ⟨h.2.1, hbx (fun h => h) k75⟩, ?_⟩
    refine dag_Future (hG k75) W (by omega) h fun A80 c80 w80 row80 k80 => ⟨A80, _, c80, rfl, ?_⟩
    have k80' := k75.trans k80 (fun _ _ h => h)
    refine ⟨hcs k80', ref_Future (hR k80') W (by omega) h fun A83 c83 w83 row83 k83 => ⟨A83, _, c83, rfl, ?_⟩⟩
    have k83' := k80'.trans k83 (fun _ _ h => h)
    refine ref_Equal (HRow.hs (Row.keep row80 k83 (fun _ _ h => h))) row83.hs (by omega) fun w86 k86 => ⟨_, rfl, ?_⟩
    have k86' := k83'.trans k86 (fun _ _ h => h)
    refine Split.yes (decide_eq_true rfl) ⟨h.1, ⟨h.2.1, hbx (fun h => h) k86'⟩, h.1, ⟨h.2.1, hbx (fun h => h) k86'⟩, ?_⟩
    refine dag_Anticone (hG k86') W (by omega) h fun A91 c91 w91 row91 k91 => ⟨A91, _, c91, rfl, ?_⟩
    have k91' := k86'.trans k91 (fun _ _ h => h)
    refine ⟨hcs k91', ref_Anticone (hR k91') W (by omega) h fun A94 c94 w94 row94 k94 => ⟨A94, _, c94, rfl, ?_⟩⟩
    have k94' := k91'.trans k94 (fun _ _ h => h)
    refine ref_Equal (HRow.hs (Row.keep row91 k94 (fun _ _ h => h))) row94.hs (by omega) fun w97 k97 => ⟨_, rfl, ?_⟩
    rw [decide_eq_true rfl]
    exact hK w97 (k94'.trans k97 (fun _ _ h => h))
theorem looks_ok (B : Both w S F g FR r D) (W : WfD D) (hD : D.length ≤ 5000) (hT : Tab w) (h : HT) (hK : ∀ w', Kept Nil w w' → K (.bool true) w') :
    Ret Tryd.prog law10_looks.id #[.pointer (some ⟨g, 0, none⟩), .pointer (some ⟨r, 0, none⟩), .agg h.1] w K := by
  obtain ⟨bl, c, mb, M, G⟩ := B.G
  have hG : ∀ {v : World}, Kept Nil w v → GV v S F g D (childL D) bl c mb M := fun k => G.same k
  have hR : ∀ {v : World}, Kept Nil w v → IsR v FR r D := fun k => B.R.same k
  have hpsl : ∀ nd ∈ D, nd.ps.length ≤ 10000 := fun nd hnd => Nat.le_trans (W.ps_len nd hnd) (by omega)
  refine law10_looks.of ?_
  unfold law10_looks.W
  intro w4
  have k4 : Kept Nil w w4 := (Kept.refl _ _).alloc _
  have hb4 : w4.heap[w.heap.size]? = some (.cells h.1 T_api_Hash (0, 0)) := new_blk w _
  clear_value w4
  have hbx : ∀ {v : World}, Kept Nil w4 v → Cells v ⟨w.heap.size, 0, none⟩ h.1 := fun k => Cells.blk (k.heap hb4 (fun h => h))
  refine ⟨h.1, ⟨h.2.1, hbx (Kept.refl _ _)⟩, ?_⟩
  by_cases hm : h ∈ ids D
  · have hge : atI D h ≥ 0 := atI_ge.2 hm
    refine dag_Parents (hG k4) hpsl h (fun _ _ hn => absurd hm hn) fun i nd A7 c7 w7 hi hid row7 k7 => ⟨A7, _, c7, 0, rfl, h.1, ⟨h.2.1, hbx k7⟩, ?_⟩
    have k7' := k4.trans k7 (fun _ _ h => h)
    refine dag_Children (hG k7') (by omega) h (fun _ _ hn => absurd hm hn) fun A12 c12 w12 _ row12 k12 => ⟨A12, _, c12, 0, rfl, h.1, ⟨h.2.1, hbx (k7.trans k12 (fun _ _ h => h))⟩, ?_⟩
    have k412 := k7.trans k12 (fun _ _ h => h)
    have k12' := k7'.trans k12 (fun _ _ h => h)
    refine ref_At (hR k12') (by omega) h fun w17 k17 => ⟨_, rfl, h.1, ⟨h.2.1, hbx (k412.trans k17 (fun _ _ h => h))⟩, ?_⟩
    have k417 := k412.trans k17 (fun _ _ h => h)
    have k17' := k12'.trans k17 (fun _ _ h => h)
    refine dag_Has (hG k17') h fun w21 k21 => ⟨_, rfl, ?_⟩
    have k421 := k417.trans k21 (fun _ _ h => h)
    have k21' := k17'.trans k21 (fun _ _ h => h)
    rw [decide_eq_true hm, decide_eq_true hge]
    refine Split.no rfl (Split.no rfl (Split.no rfl (Split.no (decide_eq_false (by omega)) ?_)))
    refine law10_looks.join1 (Split.yes (decide_eq_true hge) ?_)
    obtain ⟨nd', hg0, hd', hid'⟩ := atI_get hm
    have hndl := W.ps_len nd (List.mem_of_getElem? hi)
    have hcl := pick_len D fun a => Par D h a
    change (childL D h).length ≤ _ at hcl
    have hsame : nd' = nd := by
      have := W.inj hd' hi (hid'.trans hid.symm)
      rw [this, hi] at hd'
      exact (Option.some.inj hd').symm
    subst hsame
    refine (hR k21').go fun A3 c3 hns => hns.ps hg0 hd' fun pA pn pc hps _ => ?_
    refine ref_Equal (HRow.hs (Row.keep row7 ((k12.trans k17 (fun _ _ h => h)).trans k21 (fun _ _ h => h)) (fun _ _ h => h))) hps (by omega) fun w34 k34 => ⟨_, rfl, ?_⟩
    have k34' := k21'.trans k34 (fun _ _ h => h)
    have k434 := k421.trans k34 (fun _ _ h => h)
    refine Split.no (by rw [decide_eq_true rfl]; rfl) ⟨h.1, ⟨h.2.1, hbx k434⟩, ?_⟩
    refine ref_Children (hR k34') W (by omega) h fun A38 c38 w38 row38 k38 => ⟨A38, _, c38, rfl, ?_⟩
    have k38' := k34'.trans k38 (fun _ _ h => h)
    have k438 := k434.trans k38 (fun _ _ h => h)
    refine ref_Equal (HRow.hs (Row.keep row12 (((k17.trans k21 (fun _ _ h => h)).trans k34 (fun _ _ h => h)).trans k38 (fun _ _ h => h)) (fun _ _ h => h))) row38.hs (by omega) fun w41 k41 => ⟨_, rfl, ?_⟩
    have k41' := k38'.trans k41 (fun _ _ h => h)
    have k441 := k438.trans k41 (fun _ _ h => h)
    refine Split.no (by rw [decide_eq_true rfl]; rfl) (law10_looks.join2 (Split.no (decide_eq_false (by omega)) (law10_looks.join3 ?_)))
    exact looks_J3 (B.same k41') W hD (hT.same k41') (k441.heap hb4 (fun h => h)) fun w' k => hK w' (k41'.trans k (fun _ _ h => h))
  · have hlt0 : atI D h < 0 := atI_neg.2 hm
    have hnge : ¬ atI D h ≥ 0 := by omega
    refine dag_Parents (hG k4) hpsl h (fun w7 k7 _ => ?_) fun i nd A7 c7 w7 hi hid _ _ => absurd (ids_mem.2 ⟨nd, List.mem_of_getElem? hi, hid⟩) hm
    refine ⟨_, _, _, 6, rfl, h.1, ⟨h.2.1, hbx k7⟩, ?_⟩
    have k7' := k4.trans k7 (fun _ _ h => h)
    refine dag_Children (hG k7') (by omega) h (fun w12 k12 _ => ?_) fun A12 c12 w12 hm' _ _ => absurd hm' hm
    have k412 := k7.trans k12 (fun _ _ h => h)
    have k12' := k7'.trans k12 (fun _ _ h => h)
    refine ⟨_, _, _, 6, rfl, h.1, ⟨h.2.1, hbx k412⟩, ?_⟩
    refine ref_At (hR k12') (by omega) h fun w17 k17 => ⟨_, rfl, h.1, ⟨h.2.1, hbx (k412.trans k17 (fun _ _ h => h))⟩, ?_⟩
    have k417 := k412.trans k17 (fun _ _ h => h)
    have k17' := k12'.trans k17 (fun _ _ h => h)
    refine dag_Has (hG k17') h fun w21 k21 => ⟨_, rfl, ?_⟩
    have k421 := k417.trans k21 (fun _ _ h => h)
    have k21' := k17'.trans k21 (fun _ _ h => h)
    rw [decide_eq_false hm, decide_eq_false hnge]
    refine Split.no rfl (Split.no rfl (Split.no rfl (Split.yes (decide_eq_true hlt0) (Split.no rfl (Split.no rfl ?_)))))
    refine law10_looks.join1 (Split.no (decide_eq_false hnge) (law10_looks.join2 (Split.yes (decide_eq_true hlt0) ⟨h.1, ⟨h.2.1, hbx k421⟩, h.2.1, ?_⟩)))
    intro w48
    have k48 : Kept Nil w21 w48 := (Kept.refl _ _).alloc _
    have hx48 : HS w48 (some ⟨w21.heap.size, 0, none⟩) 1 [h] := hbox w21 h
    clear_value w48
    have k48' := k21'.trans k48 (fun _ _ h => h)
    have k448 := k421.trans k48 (fun _ _ h => h)
    have e1 : pastsL D [h] = [] := pick_no fun a ⟨x, hx, ha⟩ => by
      rw [List.mem_singleton] at hx
      subst hx
      exact hm (ha.mem W).2
    have e2 : futureL D h = [] := pick_no fun a ha => hm (ha.mem W).1
    have e3 : antiL D h = [] := pick_no fun a ha => hm ha.1
    refine dag_Past (hG k48') W (by omega) (hT.same k48') hx48 (by omega) fun A50 c50 w50 row50 k50 => ⟨A50, _, c50, rfl, ?_⟩
    have k50' := k48'.trans k50 (fun _ _ h => h)
    have k450 := k448.trans k50 (fun _ _ h => h)
    refine Split.yes (by rw [e1]; rfl) ⟨h.1, ⟨h.2.1, hbx k450⟩, ?_⟩
    refine dag_Future (hG k50') W (by omega) h fun A54 c54 w54 row54 k54 => ⟨A54, _, c54, rfl, ?_⟩
    have k54' := k50'.trans k54 (fun _ _ h => h)
    have k454 := k450.trans k54 (fun _ _ h => h)
    refine Split.yes (by rw [e2]; rfl) ⟨h.1, ⟨h.2.1, hbx k454⟩, ?_⟩
    refine dag_Anticone (hG k54') W (by omega) h fun A58 c58 w58 row58 k58 => ⟨A58, _, c58, rfl, ?_⟩
    rw [e3]
    exact hK w58 (k54'.trans k58 (fun _ _ h => h))
end
end Go.Proofs.YtljckpecmlnbiaaDoor
/-
  same: both are the same.
-/
namespace Go.Proofs.YtljckpecmlnbiaaDoor
open Go Go.Lite Go.RowKit

section
variable {w w' : World} {S F FR : Nat → Prop} {g r : Nat} {D : DG} {K : Value → World → Prop}
theorem same_ok (B : Both w S F g FR r D) (W : WfD D) (hD : D.length ≤ 5000) (hT : Tab w) (hK : ∀ w', Kept Nil w w' → K (.bool true) w') :
    Ret Tryd.prog law10_same.id #[.pointer (some ⟨g, 0, none⟩), .pointer (some ⟨r, 0, none⟩)] w K := by
  obtain ⟨bl, c, mb, M, G⟩ := B.G
  have hG : ∀ {v : World}, Kept Nil w v → GV v S F g D (childL D) bl c mb M := fun k => G.same k
  have hR : ∀ {v : World}, Kept Nil w v → IsR v FR r D := fun k => B.R.same k
  have hpos := W.pos
  obtain ⟨nd0, h0⟩ : ∃ nd, D[0]? = some nd := ⟨_, List.getElem?_eq_getElem hpos⟩
  have htl := pick_len D fun a => ¬ ∃ b, Par D a b
  change (tipsL D).length ≤ _ at htl
  refine law10_same.of ?_
  unfold law10_same.W
  intro w3 w4
  have k3 : Kept Nil w w3 := (Kept.refl _ _).alloc _
  have hp3 : w3.heap[w.heap.size]? = some (.cells #[.pointer (some ⟨r, 0, none⟩)] T_p_plexusref10_Graph (0, 0)) := new_blk w _
  have k4 : Kept Nil w3 w4 := (Kept.refl _ _).alloc _
  have hr4 : w4.heap[w3.heap.size]? = some (.cells #[.bool false] T_bool (0, 0)) := new_blk w3 _
  have hp4 := k4.heap hp3 (fun h => h)
  clear_value w4
  have l3 := lt_blk hp3
  have l4 := lt_blk hr4
  clear_value w3
  have k04 : Kept Nil w w4 := k3.trans k4 (fun _ _ h => h)
  refine dag_All (hG k04) fun w6 pb k6 hpb hpbl => ⟨_, rfl, ?_⟩
  intro w8
  have k8 : Kept Nil w6 w8 := (Kept.refl _ _).drew
  have hpb8 : w8.heap[pb]? = some (.cells #[.slice (some ⟨bl, 0, none⟩) D.length c] T_sl_p_dag_node (0, 0)) := hpb
  clear_value w8
  have k48 : Kept Nil w4 w8 := k6.trans k8 (fun _ _ h => h)
  have k08 : Kept Nil w w8 := k04.trans k48 (fun _ _ h => h)
  have hp8 := k48.heap hp4 (fun h => h)
  refine ⟨.inr ⟨_, _, _, rfl⟩, Split.no rfl ⟨some ⟨r, 0, none⟩, by rw [cell_blk hp8]; rfl, ?_⟩⟩
  obtain ⟨A8, c8, htop8, hns8⟩ := (hR k08).ex
  refine ⟨A8, _, c8, by rw [add_zero, cell_blk htop8]; rfl, dag_Len (hG k08) ⟨_, rfl, by rw [add_zero, cell_blk htop8]; rfl, by rw [cell_blk hp8]; rfl, Split.no (by simp) ⟨some ⟨r, 0, none⟩, by rw [cell_blk hp8]; rfl, A8, _, c8, by rw [add_zero, cell_blk htop8]; rfl, ?_⟩⟩⟩
  obtain ⟨a, pA, pn, pc, hA8, ha2, _, ha4, _, _⟩ := hns8.at_ 0 nd0 h0
  subst hA8
  have hcells : ∀ {v : World}, Kept Nil w8 v → Cells v ((a.add ((0 : Int).toNat * 33)).add 0) nd0.id.1 := fun k j x hj => by
    rw [add_zero]
    exact k.cell (ha4 j x (push_get hj)) (fun h => h)
  refine ⟨⟨by omega, by omega⟩, nd0.id.1, ⟨nd0.id.2.1, hcells (Kept.refl _ _)⟩, dag_Root (hG k08) h0 fun w25 k25 => ⟨_, rfl, ⟨nd0.id.1, rfl, nd0.id.2.1, hcells k25⟩, ?_⟩⟩
  have k025 := k08.trans k25 (fun _ _ h => h)
  have k425 := k48.trans k25 (fun _ _ h => h)
  have hp25 := k25.heap hp8 (fun h => h)
  have htop25 := k25.heap htop8 (fun h => h)
  refine ⟨by rw [add_zero, cell_blk htop25]; rfl, by rw [cell_blk hp25]; rfl, ⟨nd0.id.2.ints, nd0.id.2.ints⟩, ?_⟩
  rw [sameInts_eq]
  refine Split.no (by rw [decide_eq_true rfl]; rfl) ⟨some ⟨r, 0, none⟩, by rw [cell_blk hp25]; rfl, ?_⟩
  refine dag_Tips (hG k025) W (by omega) fun A31 c31 w31 row31 k31 => ⟨A31, _, c31, rfl, ?_⟩
  have k031 := k025.trans k31 (fun _ _ h => h)
  have hp31 := k31.heap hp25 (fun h => h)
  refine ⟨by rw [cell_blk hp31]; rfl, ref_Tips (hR k031) W (by omega) fun A34 c34 w34 row34 k34 => ⟨A34, _, c34, rfl, ?_⟩⟩
  have k034 := k031.trans k34 (fun _ _ h => h)
  refine ref_Equal (HRow.hs (Row.keep row31 k34 (fun _ _ h => h))) row34.hs (by omega) fun w37 k37 => ⟨_, rfl, ?_⟩
  have k037 := k034.trans k37 (fun _ _ h => h)
  have k3137 := k34.trans k37 (fun _ _ h => h)
  have k437 : Kept Nil w4 w37 := (k425.trans k31 (fun _ _ h => h)).trans k3137 (fun _ _ h => h)
  have hp37 := k3137.heap hp31 (fun h => h)
  have hr37 := k437.heap hr4 (fun h => h)
  have hpb37 := ((k25.trans k31 (fun _ _ h => h)).trans k3137 (fun _ _ h => h)).heap hpb8 (fun h => h)
  have s37 := k437.size
  refine Split.no (by rw [decide_eq_true rfl]; rfl) ?_
  -- the two rounds
  refine Holds.mark0 rfl ?_
  refine law10_same.loop1 (I := fun s v => ∃ (t : Nat) (Ms : List Nat), s = ((t : Int), marksA Ms) ∧ t ≤ 2 ∧ Kept Nil w37 v ∧ Ms.Nodup ∧ ∀ E ∈ Ms, w37.heap.size ≤ E ∧ v.heap[E]? = some (.deferred (some []))) (μ := fun s _ => (2 - s.1).toNat) (s := (0, #[])) ⟨0, [], rfl, by omega, Kept.refl _ _, List.Pairwise.nil, by simp⟩ ?_
  rintro s v ⟨t, Ms, rfl, ht, kv, hnd, hMs⟩
  have k0v : Kept Nil w v := k037.trans kv (fun _ _ h => h)
  have hpv := kv.heap hp37 (fun h => h)
  have hrv := kv.heap hr37 (fun h => h)
  have hpbv := kv.heap hpb37 (fun h => h)
  refine Split.dec (fun hil0 => ?_) (fun hge => ?_)
  · simp only at hil0
    intro w47
    have hi47 : w47.heap[v.heap.size]? = some (.cells #[.int .i64 0] T_int (0, 0)) := new_blk v _
    have k47 : Kept Nil v w47 := (Kept.refl _ _).alloc _
    clear_value w47
    refine ⟨wr_blk hi47 (by simp), ?_⟩
    intro w48
    have k48' : Kept (· = v.heap.size) w47 w48 := Kept.setCell (S := fun k => k = v.heap.size) (Kept.refl _ w47) (p := ⟨v.heap.size, 0, none⟩) (fun _ => rfl) _
    have hi48 : w48.heap[v.heap.size]? = some (.cells #[.int .i64 0] T_int (0, 0)) := set_blk hi47 0 _
    clear_value w48
    have kv48 : Kept Nil v w48 := k47.trans k48' (fun k hk e => by omega)
    have sv := kv.size
    have s48 := lt_blk hi48
    let ρ0 : Env := [(0, .pointer (some ⟨g, 0, none⟩)), (3, .pointer (some ⟨w.heap.size, 0, none⟩)), (4, .pointer (some ⟨w3.heap.size, 0, none⟩)), (5, .func (.func dag_Graph_All_fn1.id) #[] #[.pointer (some ⟨pb, 0, none⟩)]), (6, .int .i64 (t : Int)), (7, .pointer (some (⟨v.heap.size, 0, none⟩ : Addr))), (48, .func (.func dag_Graph_All_fn1.id) #[] #[.pointer (some ⟨pb, 0, none⟩)])]
    let J : Nat → World → Prop := fun i u => u.heap[v.heap.size]? = some (.cells #[.int .i64 (i : Int)] T_int (0, 0)) ∧ Kept (· = v.heap.size) w48 u ∧ i ≤ D.length
    have kJ : ∀ {u : World}, Kept (· = v.heap.size) w48 u → Kept Nil v u := fun k => kv48.trans k (fun k hk e => by omega)
    have k0J : ∀ {u : World}, Kept (· = v.heap.size) w48 u → Kept Nil w u := fun k => k0v.trans (kJ k) (fun _ _ h => h)
    change Holds none [] Tryd.prog _ _ _ (ρ0 ++ [(dkey, .agg (marksA Ms))]) w48
    refine range_iter (n := 99) (ρ := ρ0 ++ [(dkey, .agg (marksA Ms))]) (ρ0 := ρ0) ng mix law10_same.k (t := 48) (ps := #[49]) (by kernel_rfl) (by decide) rfl dag_Graph_All_fn1.at_ rfl (.inr ⟨_, rfl⟩) (fun i x hi hx => (find_snoc (ρ := ρ0) (.agg (marksA Ms)) hi).trans hx) rfl encH (ids D) (fun _ => rfl) (fun q hq => by
        have e49 : q = 49 := by simpa using hq
        subst e49
        exact ⟨by decide, by decide⟩) (graph_iter (S := S) (F := F) (g := g) (bl := bl) (c := c) (mb := mb) (C := childL D) (M := M) (by omega) ⟨pb, 0, none⟩) J (fun _ _ => False) ?_ (fun _ _ _ _ _ h => h.elim) (fun i u h => ⟨hG (k0J h.2.1), by rw [cell_blk ((kJ h.2.1).heap hpbv (fun h => h))]; rfl⟩) ?_ ?_ ?_ (fun _ _ h => h.elim) (fun _ _ _ h => h.elim)
    · rintro i u u' R hlv ⟨h1, h2, h3⟩ hk
      exact ⟨hk.heap h1 (ne_loop h1 hlv.loop), h2.trans hk (fun k hk e => by omega), h3⟩
    · intro R
      exact ⟨old_blk (old_blk hi48 _) _, (((Kept.refl _ _).alloc _).alloc _), Nat.zero_le _⟩
    · rintro i x u R hx ⟨h1, h2, h3⟩ hlv
      have e7 : putAll ρ0 ((#[49] : Array Nat).toList.zip (encH x)) = [(0, .pointer (some ⟨g, 0, none⟩)), (3, .pointer (some ⟨w.heap.size, 0, none⟩)), (4, .pointer (some ⟨w3.heap.size, 0, none⟩)), (5, .func (.func dag_Graph_All_fn1.id) #[] #[.pointer (some ⟨pb, 0, none⟩)]), (6, .int .i64 (t : Int)), (7, .pointer (some (⟨v.heap.size, 0, none⟩ : Addr))), (48, .func (.func dag_Graph_All_fn1.id) #[] #[.pointer (some ⟨pb, 0, none⟩)]), (49, .agg x.1)] := rfl
      rw [e7, law10_same.a1]
      obtain ⟨nd, hnd, rfl⟩ := ids_at hx
      have hil := (List.getElem?_eq_some_iff.1 hnd).1
      unfold law10_same.A1
      intro w85
      obtain ⟨hwr, hbx, hkx⟩ := box_set (w := u) (z := (#[.int .u8 0, .int .u8 0, .int .u8 0, .int .u8 0, .int .u8 0, .int .u8 0, .int .u8 0, .int .u8 0, .int .u8 0, .int .u8 0, .int .u8 0, .int .u8 0, .int .u8 0, .int .u8 0, .int .u8 0, .int .u8 0, .int .u8 0, .int .u8 0, .int .u8 0, .int .u8 0, .int .u8 0, .int .u8 0, .int .u8 0, .int .u8 0, .int .u8 0, .int .u8 0, .int .u8 0, .int .u8 0, .int .u8 0, .int .u8 0, .int .u8 0, .int .u8 0] : Array Value)) (cs := nd.id.1) (t := T_api_Hash) (by rw [nd.id.2.1]; rfl)
      refine ⟨⟨nd.id.2.1, nd.id.2.one, fun j hj => hwr j (by rw [nd.id.2.1]; exact hj)⟩, ?_⟩
      intro w88
      replace hbx : w88.heap[u.heap.size]? = some (.cells nd.id.1 T_api_Hash (0, 0)) := hbx
      replace hkx : Kept Nil u w88 := hkx
      clear_value w88
      have hl88 := hlv.keep hkx (fun h => h) (fun h => h)
      refine ⟨hl88, fun w2 R2 hk2 hl2 => ?_⟩
      have hb2 := hk2.heap hbx (ne_loop hbx hl88.loop)
      have h188 := hkx.heap h1 (fun h => h)
      have h12 := hk2.heap h188 (ne_loop h188 hl88.loop)
      have h22 : Kept (· = v.heap.size) w48 w2 := (h2.trans hkx (fun _ _ h => h.elim)).trans hk2 (fun k hk e => by omega)
      rw [law10_same.y1]
      unfold law10_same.Y1
      intro w93
      have k93 : Kept Nil w2 w93 := (Kept.refl _ _).drew
      clear_value w93
      have h193 := k93.heap h12 (fun h => h)
      have hb93 := k93.heap hb2 (fun h => h)
      have h293 := h22.trans k93 (fun _ _ h => h.elim)
      have hp93 := (kJ h293).heap hpv (fun h => h)
      have hl93 := hl2.keep k93 (fun h => h) (fun h => h)
      refine ⟨(i : Int), by rw [cell_blk h193]; rfl, some ⟨r, 0, none⟩, by rw [cell_blk hp93]; rfl, (hR (k0J h293)).go fun A9 c9 hns9 => ?_⟩
      refine Split.no (decide_eq_false (by omega)) ⟨nd.id.1, ⟨nd.id.2.1, Cells.blk hb93⟩, some ⟨r, 0, none⟩, by rw [cell_blk hp93]; rfl, (hR (k0J h293)).go fun A10 c10 hns10 => ⟨(i : Int), by rw [cell_blk h193]; rfl, ?_⟩⟩
      refine hns10.id (i := (i : Int)) (by omega) (by rw [Int.toNat_natCast]; exact hnd) ⟨⟨nd.id.2.ints, nd.id.2.ints⟩, ?_⟩
      rw [sameInts_eq]
      refine Split.no (by rw [decide_eq_true rfl]; rfl) ⟨(i : Int), by rw [cell_blk h193]; rfl, wr_blk h193 (by simp), ?_⟩
      intro w108
      have hi108 : w108.heap[v.heap.size]? = some (.cells #[.int .i64 ((i + 1 : Nat) : Int)] T_int (0, 0)) := by
        show (w93.setCell ⟨v.heap.size, 0, none⟩ (.int .i64 (IntKind.i64.wrap ((i : Int) + (1 : Int))))).heap[v.heap.size]? = _
        rw [wrapP (n := (i : Int)) (by omega) (by omega), set_blk h193 0]
        rfl
      have k108 : Kept (· = v.heap.size) w93 w108 := by
        show Kept (· = v.heap.size) w93 (w93.setCell ⟨v.heap.size, 0, none⟩ (.int .i64 (IntKind.i64.wrap ((i : Int) + (1 : Int)))))
        exact Kept.setCell (S := fun k => k = v.heap.size) (Kept.refl _ w93) (p := ⟨v.heap.size, 0, none⟩) (fun _ => rfl) _
      clear_value w108
      exact ⟨hl93.keep k108 (ne_loop h193 hl93.loop).symm (ne_mark h193 hl93.mark).symm, hi108, h293.trans k108 (fun _ _ h => h), hil⟩
    · rintro u R ⟨h1, h2, h3⟩ hlv
      rw [ids_len] at h1
      have e7 : addMark (ρ0 ++ [(dkey, .agg (marksA Ms))]) w48.heap.size = [(0, .pointer (some ⟨g, 0, none⟩)), (3, .pointer (some ⟨w.heap.size, 0, none⟩)), (4, .pointer (some ⟨w3.heap.size, 0, none⟩)), (5, .func (.func dag_Graph_All_fn1.id) #[] #[.pointer (some ⟨pb, 0, none⟩)]), (6, .int .i64 (t : Int)), (7, .pointer (some (⟨v.heap.size, 0, none⟩ : Addr))), (48, .func (.func dag_Graph_All_fn1.id) #[] #[.pointer (some ⟨pb, 0, none⟩)]), (4294967296, .agg (marksA (w48.heap.size :: Ms)))] := rfl
      rw [e7, law10_same.z1_normal _ _ _ _ _ _ _ #[]]
      unfold law10_same.Z1_normal
      intro w109
      have k109 : Kept Nil u w109 := (Kept.refl _ _).drew
      clear_value w109
      have k2109 := h2.trans k109 (fun _ _ h => h.elim)
      have hp109 := (kJ k2109).heap hpv (fun h => h)
      have h1109 := k109.heap h1 (fun h => h)
      have hm109 := k109.heap hlv.mark (fun h => h)
      refine ⟨((D.length : Nat) : Int), by rw [cell_blk h1109]; rfl, some ⟨r, 0, none⟩, by rw [cell_blk hp109]; rfl, (hR (k0J k2109)).go fun A9 c9 hns9 => ?_⟩
      refine Split.no (by simp) ?_
      rw [wrapP (n := (t : Int)) (by omega) (by omega)]
      have hs48 := kv48.size
      refine ⟨((t : Int) + 1, marksA (w48.heap.size :: Ms)), rfl, ⟨t + 1, w48.heap.size :: Ms, rfl, by omega, kv.trans (kJ k2109) (fun _ _ h => h), ?_, fun E hE => ?_⟩, by simp only; omega⟩
      · rw [List.nodup_cons]
        refine ⟨fun hE => ?_, hnd⟩
        have := lt_blk (hMs _ hE).2
        omega
      · rcases List.mem_cons.1 hE with rfl | hE
        · exact ⟨by omega, hm109⟩
        · exact ⟨(hMs E hE).1, (kJ k2109).heap (hMs E hE).2 (fun h => h)⟩
  · simp only at hge
    rw [roundQ_exit, law10_same.x1_0]
    unfold law10_same.X1_0
    refine law10_same.loop2 (I := fun s u => ∃ i : Nat, s = (i : Int) ∧ i ≤ D.length ∧ Kept Nil v u) (μ := fun s _ => ((D.length : Int) - s).toNat) (s := 0) ⟨0, rfl, Nat.zero_le _, Kept.refl _ _⟩ ?_
    rintro s u ⟨i, rfl, hi, ku⟩
    have k0u : Kept Nil w u := k0v.trans ku (fun _ _ h => h)
    have hpu := ku.heap hpv (fun h => h)
    have hru := ku.heap hrv (fun h => h)
    refine ⟨some ⟨r, 0, none⟩, by rw [cell_blk hpu]; rfl, (hR k0u).go fun A9 c9 hns9 => Split.dec (fun hil0 => ?_) (fun hge2 => ?_)⟩
    · have hil : i < D.length := by omega
      obtain ⟨nd, hnd⟩ : ∃ nd, D[i]? = some nd := ⟨_, List.getElem?_eq_getElem hil⟩
      intro w60
      have k60 : Kept Nil u w60 := (Kept.refl _ _).drew
      clear_value w60
      have k060 := k0u.trans k60 (fun _ _ h => h)
      have hp60 := k60.heap hpu (fun h => h)
      refine ⟨some ⟨r, 0, none⟩, by rw [cell_blk hp60]; rfl, some ⟨r, 0, none⟩, by rw [cell_blk hp60]; rfl, (hR k060).go fun A10 c10 hns10 => ?_⟩
      refine hns10.id (i := (i : Int)) (by omega) (by rw [Int.toNat_natCast]; exact hnd) ?_
      refine looks_ok (B.same k060) W hD (hT.same k060) nd.id fun w68 k68 => ⟨_, rfl, Split.no rfl ?_⟩
      rw [wrapP (n := (i : Int)) (by omega) (by omega)]
      exact ⟨(i : Int) + 1, rfl, ⟨i + 1, rfl, hil, (ku.trans k60 (fun _ _ h => h)).trans k68 (fun _ _ h => h)⟩, by simp only; omega⟩
    · rw [roundQ_exit, law10_same.x2_4]
      unfold law10_same.X2_4
      refine ⟨wr_blk hru (by simp), ?_⟩
      intro w75
      have k75 : Kept (· = w3.heap.size) u w75 := Kept.setCell (S := fun k => k = w3.heap.size) (Kept.refl _ u) (p := ⟨w3.heap.size, 0, none⟩) (fun _ => rfl) _
      have hr75 : w75.heap[w3.heap.size]? = some (.cells #[.bool true] T_bool (0, 0)) := set_blk hru 0 _
      clear_value w75
      rw [marksOf_A]
      have hm75 : ∀ E ∈ Ms, w75.heap[E]? = some (.deferred (some [])) := fun E hE => k75.heap (ku.heap (hMs E hE).2 (fun h => h)) (by have := (hMs E hE).1; omega)
      have kt := takeAll_kept Ms w75
      have hrt := kt.heap hr75 (fun hE => by have := (hMs _ hE).1; omega)
      refine ⟨marksOk_of Ms w75 hnd hm75, true, by rw [cell_blk hrt]; rfl, hK _ ?_⟩
      have s0 := k04.size
      have s1 := k037.size
      exact (k0u.trans k75 (fun k hk e => by omega)).trans kt (fun k hk hE => by have := (hMs k hE).1; omega)
end
end Go.Proofs.YtljckpecmlnbiaaDoor
/-
  The walks of DagPlays and DagBefore.
-/
namespace Go.Proofs.YtljckpecmlnbiaaDoor
open Go Go.Lite Go.RowKit

section
variable {w w' : World} {FP : Nat → Prop} {K : Value → World → Prop}
theorem plays_ok {A : Option Addr} {n c : Nat} {l : List DN} (hl : NS w FP A n l) (hn : n < 9223372036854775808) (root other : HT) (hT : Tab w) (hK : ∀ w', Kept Nil w w' → K (.bool true) w') :
    Ret Tryd.prog law10_DagPlays.id #[.agg root.1, .slice A n c, .agg other.1] w K := by
  have hlen := hl.len
  refine law10_DagPlays.of ?_
  unfold law10_DagPlays.W
  intro w4 w5
  have k4 : Kept Nil w w4 := (Kept.refl _ _).alloc _
  have hr4 : w4.heap[w.heap.size]? = some (.cells root.1 T_api_Hash (0, 0)) := new_blk w _
  have k5 : Kept Nil w4 w5 := (Kept.refl _ _).alloc _
  have ho5 : w5.heap[w4.heap.size]? = some (.cells other.1 T_api_Hash (0, 0)) := new_blk w4 _
  have hr5 := k5.heap hr4 (fun h => h)
  clear_value w5
  have k05 := k4.trans k5 (fun _ _ h => h)
  refine few_ok (hl.keep k05 (fun _ _ h => h)) hn 30 fun x hx => ⟨x, rfl, ?_⟩
  cases x with
  | false => exact Split.yes rfl (known_ok fun w10 k10 => ⟨true, rfl, hK w10 (k05.trans k10 (fun _ _ h => h))⟩)
  | true =>
    obtain ⟨hps, hll⟩ := hx.1 rfl
    refine Split.no rfl ⟨root.1, ⟨root.2.1, Cells.blk hr5⟩, begin_ok (hl.keep k05 (fun _ _ h => h)) (by omega) hps root fun w14 S F g FR r B k14 _ _ _ _ => ⟨some ⟨g, 0, none⟩, some ⟨r, 0, none⟩, true, rfl, Split.yes rfl ?_⟩⟩
    have k014 := k05.trans k14 (fun _ _ h => h)
    have W := buildD_W root l
    have hDl := buildD_len root l
    refine same_ok B W (by omega) (hT.same k014) fun w19 k19 => ⟨true, rfl, Split.yes rfl ⟨other.1, ⟨other.2.1, Cells.blk (k19.heap (k14.heap ho5 (fun h => h)) (fun h => h))⟩, ?_⟩⟩
    have k019 := k014.trans k19 (fun _ _ h => h)
    exact looks_ok (B.same k19) W (by omega) (hT.same k019) other fun w23 k23 => ⟨true, rfl, Split.yes rfl (known_ok fun w26 k26 => ⟨true, rfl, hK w26 ((k019.trans k23 (fun _ _ h => h)).trans k26 (fun _ _ h => h))⟩)⟩

theorem before_ok {A A2 : Option Addr} {n c n2 c2 : Nat} {l : List DN} {is : List HT} (hl : NS w FP A n l) (hn : n < 9223372036854775808) (hi : HS w A2 n2 is) (root : HT) (hT : Tab w) (hK : ∀ w', Kept Nil w w' → K (.bool true) w') :
    Ret Tryd.prog law10_DagBefore.id #[.agg root.1, .slice A n c, .slice A2 n2 c2] w K := by
  have hlen := hl.len
  have hilen := hi.len
  refine law10_DagBefore.of ?_
  unfold law10_DagBefore.W
  intro w4
  have k4 : Kept Nil w w4 := (Kept.refl _ _).alloc _
  have hr4 : w4.heap[w.heap.size]? = some (.cells root.1 T_api_Hash (0, 0)) := new_blk w _
  clear_value w4
  refine few_ok (hl.keep k4 (fun _ _ h => h)) hn 30 fun x hx => ⟨x, rfl, ?_⟩
  cases x with
  | false => exact Split.yes rfl (known_ok fun w10 k10 => ⟨true, rfl, hK w10 (k4.trans k10 (fun _ _ h => h))⟩)
  | true =>
    obtain ⟨hps, hll⟩ := hx.1 rfl
    refine Split.no rfl (Split.dec (fun hgt => ?_) (fun hle => ?_))
    · exact known_ok fun w10 k10 => ⟨true, rfl, hK w10 (k4.trans k10 (fun _ _ h => h))⟩
    have hn2 : n2 ≤ 10 := by omega
    refine ⟨root.1, ⟨root.2.1, Cells.blk hr4⟩, begin_ok (hl.keep k4 (fun _ _ h => h)) (by omega) hps root fun w16 S F g FR r B k16 _ _ _ _ => ⟨some ⟨g, 0, none⟩, some ⟨r, 0, none⟩, true, rfl, Split.no rfl ?_⟩⟩
    have k016 := k4.trans k16 (fun _ _ h => h)
    have W := buildD_W root l
    have hDl := buildD_len root l
    generalize buildD root l = D at B W hDl
    obtain ⟨bl, cc, mb, M, G⟩ := B.G
    have hG : ∀ {v : World}, Kept Nil w16 v → GV v S F g D (childL D) bl cc mb M := fun k => G.same k
    have hR : ∀ {v : World}, Kept Nil w16 v → IsR v FR r D := fun k => B.R.same k
    obtain ⟨A3, c3, w21, hr21, row21, hg21, _⟩ := append_hs (cx := c2) T_sl_api_Hash (HRow.nil w16 w16.heap.size) (hi.same k016) (by omega) (Nat.le_refl _)
    rw [Nat.zero_add] at hr21 row21
    rw [List.nil_append] at row21
    have k21 : Kept Nil w16 w21 := Kept.growNew (Kept.refl _ _) hg21 (fun k hk => by cases hk)
    refine ⟨A3, n2, c3, w21, hr21, ?_⟩
    -- all: the asked, and those of the graph
    refine law10_DagBefore.loop1 (I := fun s v => ∃ (i : Nat) (A : Option Addr) (c : Nat), s = (A, n2 + i, c, (i : Int)) ∧ i ≤ D.length ∧ HRow v w16.heap.size A (n2 + i) c (is ++ (ids D).take i) ∧ Kept Nil w16 v) (μ := fun s _ => ((D.length : Int) - s.2.2.2).toNat) (s := (A3, n2, c3, 0))
      ⟨0, A3, c3, rfl, Nat.zero_le _, by simpa using row21, k21⟩ ?_
    rintro s v ⟨i, A, c, rfl, hiD, row, kv⟩
    refine (hR kv).go fun A9 c9 hns9 => Split.dec (fun hil0 => ?_) (fun hge => ?_)
    · simp only at hil0
      have hil : i < D.length := by omega
      obtain ⟨nd, hnd⟩ : ∃ nd, D[i]? = some nd := ⟨_, List.getElem?_eq_getElem hil⟩
      refine (hR kv).go fun A10 c10 hns10 => ?_
      refine hns10.id (i := (i : Int)) (by omega) (by rw [Int.toNat_natCast]; exact hnd) ⟨nd.id.2.1, ?_⟩
      intro w33
      have k33 : Kept Nil v w33 := (Kept.refl _ _).alloc _
      have hb33 : HS w33 (some ⟨v.heap.size, 0, none⟩) 1 [nd.id] := hbox v nd.id
      clear_value w33
      have s33 := (kv.trans k33 (fun _ _ h => h)).size
      obtain ⟨A5, c5, w35, hr35, row35, hg35, hb35⟩ := append_hs (cx := 1) T_sl_api_Hash (Row.keep row k33 (fun _ _ h => h)) hb33 (by omega) s33
      refine ⟨A5, _, c5, w35, hr35, ?_⟩
      rw [wrapP (n := (i : Int)) (by omega) (by omega)]
      refine ⟨(A5, n2 + i + 1, c5, (i : Int) + 1), rfl, ⟨i + 1, A5, c5, rfl, hil, ?_, Kept.growNew (kv.trans k33 (fun _ _ h => h)) hg35 (fun k hk => (Row.blk row hk).1)⟩, by simp only; omega⟩
      rw [ids_take_get hnd, ← List.append_assoc]
      exact row35
    · simp only at hge
      have : i = D.length := by omega
      subst this
      rw [List.take_of_length_le (by rw [ids_len]; exact Nat.le_refl _)] at row
      rw [roundQ_exit, law10_DagBefore.x1_0]
      unfold law10_DagBefore.X1_0
      have hall : (is ++ ids D).length = n2 + D.length := by rw [List.length_append, ids_len, hilen]
      have hrow : ∀ {u : World}, Kept Nil v u → HS u A (n2 + D.length) (is ++ ids D) := fun k => (HRow.hs row).same k
      refine law10_DagBefore.loop2 (I := fun s u => ∃ i : Nat, s = (false, (i : Int)) ∧ i ≤ n2 + D.length ∧ Kept Nil v u) (μ := fun s _ => ((n2 + D.length : Nat) : Int) - s.2 |>.toNat) (s := (false, 0)) ⟨0, rfl, Nat.zero_le _, Kept.refl _ _⟩ ?_
      rintro s u ⟨i, rfl, hi2, ku⟩
      refine Split.dec (fun hil0 => ?_) (fun hge2 => ?_)
      · simp only at hil0
        have hil : i < n2 + D.length := by omega
        obtain ⟨h, hh⟩ : ∃ h, (is ++ ids D)[i]? = some h := ⟨_, List.getElem?_eq_getElem (by omega)⟩
        refine (hrow ku).load (i := (i : Int)) (by omega) hh ⟨h.2.1, ?_⟩
        intro w49
        have k49 : Kept Nil u w49 := (Kept.refl _ _).alloc _
        have hb49 : HS w49 (some ⟨u.heap.size, 0, none⟩) 1 [h] := hbox u h
        clear_value w49
        have ku49 := ku.trans k49 (fun _ _ h => h)
        have k049 := kv.trans ku49 (fun _ _ h => h)
        refine ref_Past (hR k049) W (by omega) hb49 (by omega) fun A51 c51 w51 row51 k51 => ⟨A51, _, c51, rfl, ?_⟩
        have ku51 := ku49.trans k51 (fun _ _ h => h)
        have hpl := pick_len D fun a => ∃ x ∈ [h], Anc D a x
        change (pastsL D [h]).length ≤ _ at hpl
        refine law10_DagBefore.loop3 (I := fun s u => ∃ k : Nat, s = (false, (k : Int)) ∧ k ≤ n2 + D.length ∧ Kept Nil w51 u) (μ := fun s _ => ((n2 + D.length : Nat) : Int) - s.2 |>.toNat) (s := (false, 0)) ⟨0, rfl, Nat.zero_le _, Kept.refl _ _⟩ ?_
        rintro s x ⟨k, rfl, hk, kx⟩
        refine Split.dec (fun hkl0 => ?_) (fun hge3 => ?_)
        · simp only at hkl0
          have hkl : k < n2 + D.length := by omega
          obtain ⟨a, ha⟩ : ∃ a, (is ++ ids D)[k]? = some a := ⟨_, List.getElem?_eq_getElem (by omega)⟩
          intro w82
          have k82 : Kept Nil x w82 := (Kept.refl _ _).drew
          clear_value w82
          have k5182 := kx.trans k82 (fun _ _ h => h)
          have ku82 := ku51.trans k5182 (fun _ _ h => h)
          have k082 := kv.trans ku82 (fun _ _ h => h)
          refine (hrow ku82).load (i := (k : Int)) (by omega) ha ((hrow ku82).load (i := (i : Int)) (by omega) hh ?_)
          obtain ⟨ad, hAd, _, had⟩ := (hrow (Kept.refl _ _)).at_ k a ha
          subst hAd
          have hca : ∀ {y : World}, Kept Nil v y → Cells y (ad.add ((k : Int).toNat * 32)) a.1 := fun ky j z hj => ky.cell (by rw [Int.toNat_natCast]; exact had j z hj) (fun h => h)
          refine ⟨⟨by omega, by simp only; omega⟩, a.1, ⟨a.2.1, hca ku82⟩, ?_⟩
          refine dag_Before (hG k082) W (by omega) a h fun w90 x1 hx1 k90 => ⟨x1, rfl, ⟨a.1, rfl, a.2.1, hca (ku82.trans k90 (fun _ _ h => h))⟩, ?_⟩
          refine ref_In a (HRow.hs (Row.keep row51 (k5182.trans k90 (fun _ _ h => h)) (fun _ _ h => h))) (by omega) fun w93 k93 => ⟨_, rfl, ?_⟩
          have he : x1 = decide (a ∈ pastsL D [h]) := by
            rw [Bool.eq_iff_iff, hx1, decide_eq_true_iff]
            unfold pastsL
            rw [mem_pick]
            constructor
            · exact fun e => ⟨(e.mem W).1, h, by simp, e⟩
            · rintro ⟨_, y, hy, e⟩
              rw [List.mem_singleton] at hy
              rw [← hy]
              exact e
          refine Split.no (by rw [he]; simp) ?_
          simp only
          rw [wrapP (n := (k : Int)) (by omega) (by omega)]
          exact ⟨(false, (k : Int) + 1), rfl, ⟨k + 1, rfl, hkl, (k5182.trans k90 (fun _ _ h => h)).trans k93 (fun _ _ h => h)⟩, by simp only; omega⟩
        · simp only at hge3
          rw [roundQ_exit, law10_DagBefore.x3_4]
          unfold law10_DagBefore.X3_4
          rw [wrapP (n := (i : Int)) (by omega) (by omega)]
          exact ⟨(false, (i : Int) + 1), rfl, ⟨i + 1, rfl, hil, ku51.trans kx (fun _ _ h => h)⟩, by simp only; omega⟩
      · simp only at hge2
        rw [roundQ_exit, law10_DagBefore.x2_2]
        unfold law10_DagBefore.X2_2
        have k0u := kv.trans ku (fun _ _ h => h)
        have hpl := pick_len D fun a => ∃ x ∈ is, Anc D a x
        change (pastsL D is).length ≤ _ at hpl
        refine dag_Past (hG k0u) W (by omega) (hT.same (k016.trans k0u (fun _ _ h => h))) ((hi.same k016).same k0u) (by omega) fun A60 c60 w60 row60 k60 => ⟨A60, _, c60, rfl, ?_⟩
        have k060 := k0u.trans k60 (fun _ _ h => h)
        refine ref_Past (hR k060) W (by omega) ((hi.same k016).same k060) (by omega) fun A63 c63 w63 row63 k63 => ⟨A63, _, c63, rfl, ?_⟩
        have k063 := k060.trans k63 (fun _ _ h => h)
        refine ref_Equal (HRow.hs (Row.keep row60 k63 (fun _ _ h => h))) row63.hs (by omega) fun w66 k66 => ⟨_, rfl, ?_⟩
        have k066 := k063.trans k66 (fun _ _ h => h)
        have e0 : pastsL D [] = [] := pick_no fun a ⟨x, hx, _⟩ => by simp at hx
        refine Split.yes (decide_eq_true rfl) (dag_Past (hG k066) W (by omega) (hT.same (k016.trans k066 (fun _ _ h => h))) (HS.nil w66 none) (by omega) fun A69 c69 w69 row69 k69 => ⟨A69, _, c69, rfl, ?_⟩)
        have k069 := k066.trans k69 (fun _ _ h => h)
        refine Split.yes (by rw [e0]; rfl) (known_ok fun w72 k72 => ⟨true, rfl, hK w72 ((k016.trans k069 (fun _ _ h => h)).trans k72 (fun _ _ h => h))⟩)
end
end Go.Proofs.YtljckpecmlnbiaaDoor
/-
  The walk of DagParts.
-/
namespace Go.Proofs.YtljckpecmlnbiaaDoor
open Go Go.Lite Go.RowKit

theorem parts_perm {D : DG} (W : WfD D) {h : HT} (hh : h ∈ ids D) : ([h] ++ pastsL D [h] ++ futureL D h ++ antiL D h).Nodup ∧ ([h] ++ pastsL D [h] ++ futureL D h ++ antiL D h).length = D.length := by
  have hp : ∀ a, a ∈ pastsL D [h] ↔ Anc D a h := fun a => by
    unfold pastsL
    rw [mem_pick]
    constructor
    · rintro ⟨_, y, hy, e⟩
      rw [List.mem_singleton] at hy
      rwa [hy] at e
    · exact fun e => ⟨(e.mem W).1, h, by simp, e⟩
  have hf : ∀ a, a ∈ futureL D h ↔ Anc D h a := fun a => by
    unfold futureL
    rw [mem_pick]
    exact ⟨fun e => e.2, fun e => ⟨(e.mem W).2, e⟩⟩
  have ha : ∀ a, a ∈ antiL D h ↔ a ∈ ids D ∧ a ≠ h ∧ ¬ Anc D a h ∧ ¬ Anc D h a := fun a => by
    unfold antiL
    rw [mem_pick]
    exact ⟨fun e => ⟨e.1, e.2.2⟩, fun e => ⟨e.1, hh, e.2⟩⟩
  have hs : ∀ is, (pick D is).Nodup := fun is => (SS_srt _).nodup
  have hnd : ([h] ++ pastsL D [h] ++ futureL D h ++ antiL D h).Nodup := by
    rw [List.nodup_append, List.nodup_append, List.nodup_append]
    refine ⟨⟨⟨by simp, hs _, fun a h1 b h2 e => ?_⟩, hs _, fun a h1 b h2 e => ?_⟩, hs _, fun a h1 b h2 e => ?_⟩
    · subst e
      rw [List.mem_singleton] at h1
      subst h1
      exact Anc.irrefl W _ ((hp _).1 h2)
    · subst e
      rw [hf] at h2
      rw [List.mem_append, List.mem_singleton, hp] at h1
      rcases h1 with rfl | h1
      · exact Anc.irrefl W _ h2
      · exact Anc.asymm W h1 h2
    · subst e
      rw [ha] at h2
      rw [List.mem_append, List.mem_append, List.mem_singleton, hp, hf] at h1
      rcases h1 with (h1 | h1) | h1
      · exact h2.2.1 h1
      · exact h2.2.2.1 h1
      · exact h2.2.2.2 h1
  refine ⟨hnd, Nat.le_antisymm ?_ ?_⟩
  · rw [← ids_len D]
    refine nodup_len hnd fun x hx => ?_
    simp only [List.mem_append, List.mem_singleton, hp, hf, ha] at hx
    rcases hx with ((hx | hx) | hx) | hx
    · rw [hx]; exact hh
    · exact (hx.mem W).1
    · exact (hx.mem W).2
    · exact hx.1
  · rw [← ids_len D]
    refine nodup_len W.nodup fun x hx => ?_
    simp only [List.mem_append, List.mem_singleton, hp, hf, ha]
    by_cases e1 : x = h
    · exact .inl (.inl (.inl e1))
    · by_cases e2 : Anc D x h
      · exact .inl (.inl (.inr e2))
      · by_cases e3 : Anc D h x
        · exact .inl (.inr e3)
        · exact .inr ⟨hx, e1, e2, e3⟩

section
variable {w v : World} {S F FR : Nat → Prop} {g r bl c mb ib : Nat} {D : DG} {M : List NM}
theorem HRow.box {B : Nat} {h : HT} {b : Nat} (hb : w.heap[b]? = some (.cells (h.1.toList ++ []).toArray T_api_Hash (0, 0))) (hB : B ≤ b) : HRow w B (some ⟨b, 0, Option.none⟩) 1 1 [h] := by
  have e : hcells [h] = (h.1.toList ++ []).toArray.toList := by simp [hcells]
  unfold HRow
  rw [e]
  exact Row.made hb hB (by simp [h.2.1]) (by decide)
/-- future and anticone are laid behind -/
theorem parts_tail (hG : ∀ {u : World}, Kept Nil w u → GV u S F g D (childL D) bl c mb M) (W : WfD D) (hD : D.length ≤ 5000) {h : HT} (hi : w.heap[ib]? = some (.cells h.1 T_api_Hash (0, 0)))
    {A : Option Addr} {n cx : Nat} {l1 : List HT} (row : HRow v w.heap.size A n cx l1) (hn : n ≤ 20000) (kv : Kept Nil w v) {Kc : Option Addr → Nat → Nat → World → Prop}
    (hK : ∀ A' n' c' u, HRow u w.heap.size A' n' c' (l1 ++ futureL D h ++ antiL D h) → Kept Nil w u → Kc A' n' c' u) :
    (∃ cs : Array Value, (.agg h.1 : Value) = .agg cs ∧ cs.size = 32 ∧ Cells v (⟨ib, 0, none⟩ : Addr) cs) ∧ (∃ cs : Array Value, (.agg h.1 : Value) = .agg cs ∧ cs.size = 32 ∧ Cells v (⟨ib, 0, none⟩ : Addr) cs) ∧
    Ret Tryd.prog dag_Graph_Future.id #[.pointer (some ⟨g, 0, none⟩), .agg h.1] v fun v1 w1 => ∃ (A2 : Option Addr) (n2 c2 : Nat), v1 = .slice A2 n2 c2 ∧ (∃ cs : Array Value, (.agg h.1 : Value) = .agg cs ∧ cs.size = 32 ∧ Cells w1 (⟨ib, 0, none⟩ : Addr) cs) ∧
      ∃ (A3 : Option Addr) (n3 c3 : Nat) (w3 : World), (Builtin.append_ #[T_sl_api_Hash, T_sl_api_Hash] T_sl_api_Hash #[.slice A n cx, .slice A2 n2 c2]).run Tryd.prog w1 = .ok (.slice A3 n3 c3) w3 ∧ (∃ cs : Array Value, (.agg h.1 : Value) = .agg cs ∧ cs.size = 32 ∧ Cells w3 (⟨ib, 0, none⟩ : Addr) cs) ∧
        Ret Tryd.prog dag_Graph_Anticone.id #[.pointer (some ⟨g, 0, none⟩), .agg h.1] w3 fun v4 w4 => ∃ (A5 : Option Addr) (n5 c5 : Nat), v4 = .slice A5 n5 c5 ∧
          ∃ (A6 : Option Addr) (n6 c6 : Nat) (w6 : World), (Builtin.append_ #[T_sl_api_Hash, T_sl_api_Hash] T_sl_api_Hash #[.slice A3 n3 c3, .slice A5 n5 c5]).run Tryd.prog w4 = .ok (.slice A6 n6 c6) w6 ∧ Kc A6 n6 c6 w6 := by
  have hcs : ∀ {v : World}, Kept Nil w v → ∃ cs : Array Value, (.agg h.1 : Value) = .agg cs ∧ cs.size = 32 ∧ Cells v (⟨ib, 0, none⟩ : Addr) cs := fun k => ⟨h.1, rfl, h.2.1, Cells.blk (k.heap hi (fun h => h))⟩
  have p2 := pick_len D fun a => Anc D h a
  have p3 := pick_len D fun a => h ∈ ids D ∧ a ≠ h ∧ ¬ Anc D a h ∧ ¬ Anc D h a
  change (futureL D h).length ≤ _ at p2
  change (antiL D h).length ≤ _ at p3
  refine ⟨hcs kv, hcs kv, ?_⟩
  refine dag_Future (hG kv) W (by omega) h fun A2 c2 w1 row1 k1 => ⟨A2, _, c2, rfl, ?_⟩
  have k1' := kv.trans k1 (fun _ _ h => h)
  obtain ⟨A3, c3, w3, hr3, row3, hg3, _⟩ := append_hs (cx := c2) T_sl_api_Hash (Row.keep row k1 (fun _ _ h => h)) row1.hs (by omega) k1'.size
  have k3 : Kept Nil w w3 := Kept.growNew k1' hg3 (fun k hk => (Row.blk row hk).1)
  refine ⟨hcs k1', A3, _, c3, w3, hr3, hcs k3, ?_⟩
  refine dag_Anticone (hG k3) W (by omega) h fun A5 c5 w4 row4 k4 => ⟨A5, _, c5, rfl, ?_⟩
  have k4' := k3.trans k4 (fun _ _ h => h)
  obtain ⟨A6, c6, w6, hr6, row6, hg6, _⟩ := append_hs (cx := c5) T_sl_api_Hash (Row.keep row3 k4 (fun _ _ h => h)) row4.hs (by omega) k4'.size
  have k6 : Kept Nil w w6 := Kept.growNew k4' hg6 (fun k hk => (Row.blk row3 hk).1)
  exact ⟨A6, _, c6, w6, hr6, hK A6 _ c6 w6 row6 k6⟩

/-- the rest of a round -/
theorem parts_J1 (hG : ∀ {u : World}, Kept Nil w u → GV u S F g D (childL D) bl c mb M) (W : WfD D) (hD : D.length ≤ 5000) (hT : Tab w) {h : HT} (hh : h ∈ ids D) (hi : w.heap[ib]? = some (.cells h.1 T_api_Hash (0, 0)))
    {A : Option Addr} {n cx B i : Nat} (row : HRow w B A n cx ([h] ++ pastsL D [h] ++ futureL D h ++ antiL D h)) (hil : i ≤ 10000) {Q : Post}
    (hQ : ∀ u, Kept Nil w u → Q .normal [(4, .bool false), (5, .pointer (some ⟨g, 0, none⟩)), (6, .pointer (some ⟨r, 0, none⟩)), (8, .int .i64 ((i : Int) + 1))] u) :
    law10_DagParts.J1 false (some ⟨g, 0, none⟩) (some ⟨r, 0, none⟩) (i : Int) ⟨ib, 0, none⟩ A n cx Q w := by
  have hlen := HRow.len row
  obtain ⟨hnd, hpl⟩ := parts_perm W hh
  have en : n = D.length := by omega
  have hbx : ∀ {v : World}, Kept Nil w v → Cells v ⟨ib, 0, none⟩ h.1 := fun k => Cells.blk (k.heap hi (fun h => h))
  have hp : ∀ a, a ∈ pastsL D [h] → Anc D a h := fun a => by
    unfold pastsL
    rw [mem_pick]
    rintro ⟨_, y, hy, e⟩
    rw [List.mem_singleton] at hy
    rwa [hy] at e
  unfold law10_DagParts.J1
  refine dag_Len (hG (Kept.refl _ _)) ⟨_, rfl, Split.no (by rw [en]; simp) ?_⟩
  refine ref_Sorted (HRow.hs row) (by omega) fun A2 c2 w2 row2 k2 => ⟨A2, _, c2, rfl, ?_⟩
  refine Split.no (by rw [srt_len_nodup hnd, hlen]; simp) ⟨h.1, ⟨h.2.1, hbx k2⟩, h.1, ⟨h.2.1, hbx k2⟩, ?_⟩
  refine dag_Before (hG k2) W (by omega) h h fun w3 x3 hx3 k3 => ⟨x3, rfl, ?_⟩
  have k3' := k2.trans k3 (fun _ _ h => h)
  refine Split.no (by cases x3 with | false => rfl | true => exact absurd (hx3.1 rfl) (Anc.irrefl W h)) ⟨h.1, ⟨h.2.1, hbx k3'⟩, h.2.1, ?_⟩
  intro w5
  have k5 : Kept Nil w3 w5 := (Kept.refl _ _).alloc _
  have hx5 : HS w5 (some ⟨w3.heap.size, 0, none⟩) 1 [h] := hbox w3 h
  clear_value w5
  have k5' := k3'.trans k5 (fun _ _ h => h)
  have p1 := pick_len D fun a => ∃ x ∈ [h], Anc D a x
  change (pastsL D [h]).length ≤ _ at p1
  refine dag_Past (hG k5') W (by omega) (hT.same k5') hx5 (by omega) fun A7 c7 w7 row7 k7 => ⟨A7, _, c7, rfl, ?_⟩
  have k7' := k5'.trans k7 (fun _ _ h => h)
  refine law10_DagParts.loop2 (I := fun s u => ∃ k : Nat, s = (false, (k : Int)) ∧ k ≤ (pastsL D [h]).length ∧ Kept Nil w7 u) (μ := fun s _ => (((pastsL D [h]).length : Int) - s.2).toNat) (s := (false, 0)) ⟨0, rfl, Nat.zero_le _, Kept.refl _ _⟩ ?_
  rintro s u ⟨k, rfl, hk, ku⟩
  refine Split.dec (fun hkl0 => ?_) (fun hge => ?_)
  · simp only at hkl0
    have hkl : k < (pastsL D [h]).length := by omega
    obtain ⟨a, ha⟩ : ∃ a, (pastsL D [h])[k]? = some a := ⟨_, List.getElem?_eq_getElem hkl⟩
    have hanc := hp a (List.mem_of_getElem? ha)
    intro w8
    have k8 : Kept Nil u w8 := (Kept.refl _ _).drew
    clear_value w8
    have k78 := ku.trans k8 (fun _ _ h => h)
    have k8' := k7'.trans k78 (fun _ _ h => h)
    have hrow : ∀ {y : World}, Kept Nil w7 y → HS y A7 (pastsL D [h]).length (pastsL D [h]) := fun ky => HRow.hs (Row.keep row7 ky (fun _ _ h => h))
    refine ⟨h.1, ⟨h.2.1, hbx k8'⟩, (hrow k78).load (i := (k : Int)) (by omega) ha ?_⟩
    refine dag_Before (hG k8') W (by omega) h a fun w9 x9 hx9 k9 => ⟨x9, rfl, ?_⟩
    have k79 := k78.trans k9 (fun _ _ h => h)
    have k9' := k7'.trans k79 (fun _ _ h => h)
    refine Split.no (by cases x9 with | false => rfl | true => exact absurd (hx9.1 rfl) (Anc.asymm W hanc)) ?_
    refine (hrow k79).load (i := (k : Int)) (by omega) ha ⟨h.1, ⟨h.2.1, hbx k9'⟩, ?_⟩
    refine dag_Before (hG k9') W (by omega) a h fun w10 x10 hx10 k10 => ⟨x10, rfl, ?_⟩
    have k710 := k79.trans k10 (fun _ _ h => h)
    have k10' := k7'.trans k710 (fun _ _ h => h)
    refine Split.no (by rw [hx10.2 hanc]; rfl) ?_
    refine (hrow k710).load (i := (k : Int)) (by omega) ha ⟨a.2.1, ?_⟩
    intro w11
    have k11 : Kept Nil w10 w11 := (Kept.refl _ _).alloc _
    have hx11 : HS w11 (some ⟨w10.heap.size, 0, none⟩) 1 [a] := hbox w10 a
    clear_value w11
    have k711 := k710.trans k11 (fun _ _ h => h)
    have k11' := k7'.trans k711 (fun _ _ h => h)
    have p11 := pick_len D fun x => ∃ y ∈ [a], Anc D x y
    change (pastsL D [a]).length ≤ _ at p11
    refine dag_Past (hG k11') W (by omega) (hT.same k11') hx11 (by omega) fun A12 c12 w12 row12 k12 => ⟨A12, _, c12, rfl, ?_⟩
    have k712 := k711.trans k12 (fun _ _ h => h)
    refine law10_DagParts.loop3 (I := fun s y => ∃ j : Nat, s = (false, (j : Int)) ∧ j ≤ (pastsL D [a]).length ∧ Kept Nil w12 y) (μ := fun s _ => (((pastsL D [a]).length : Int) - s.2).toNat) (s := (false, 0)) ⟨0, rfl, Nat.zero_le _, Kept.refl _ _⟩ ?_
    rintro s y ⟨j, rfl, hj, ky⟩
    refine Split.dec (fun hjl0 => ?_) (fun hge => ?_)
    · simp only at hjl0
      have hjl : j < (pastsL D [a]).length := by omega
      obtain ⟨q, hq⟩ : ∃ q, (pastsL D [a])[j]? = some q := ⟨_, List.getElem?_eq_getElem hjl⟩
      have hqa : Anc D q a := by
        have := List.mem_of_getElem? hq
        unfold pastsL at this
        rw [mem_pick] at this
        obtain ⟨_, z, hz, e⟩ := this
        rw [List.mem_singleton] at hz
        rwa [hz] at e
      intro w13
      have k13 : Kept Nil y w13 := (Kept.refl _ _).drew
      clear_value w13
      have k1213 := ky.trans k13 (fun _ _ h => h)
      have k13' := k7'.trans (k712.trans k1213 (fun _ _ h => h)) (fun _ _ h => h)
      refine (HRow.hs (Row.keep row12 k1213 (fun _ _ h => h))).load (i := (j : Int)) (by omega) hq ⟨h.1, ⟨h.2.1, hbx k13'⟩, ?_⟩
      refine dag_Before (hG k13') W (by omega) q h fun w14 x14 hx14 k14 => ⟨x14, rfl, ?_⟩
      refine Split.no (by rw [hx14.2 (hqa.trans hanc)]; rfl) ?_
      simp only
      rw [wrapP (n := (j : Int)) (by omega) (by omega)]
      exact ⟨(false, (j : Int) + 1), rfl, ⟨j + 1, rfl, hjl, k1213.trans k14 (fun _ _ h => h)⟩, by simp only; omega⟩
    · simp only at hge
      rw [roundQ_exit, law10_DagParts.x3_4]
      unfold law10_DagParts.X3_4
      rw [wrapP (n := (k : Int)) (by omega) (by omega)]
      exact ⟨(false, (k : Int) + 1), rfl, ⟨k + 1, rfl, hkl, k712.trans ky (fun _ _ h => h)⟩, by simp only; omega⟩
  · simp only at hge
    rw [roundQ_exit, law10_DagParts.x2_2]
    unfold law10_DagParts.X2_2
    rw [wrapP (n := (i : Int)) (by omega) (by omega)]
    exact hQ u (k7'.trans ku (fun _ _ h => h))
end
section
variable {w w' : World} {FP : Nat → Prop} {K : Value → World → Prop}
theorem parts_ok {A : Option Addr} {n c : Nat} {l : List DN} (hl : NS w FP A n l) (hn : n < 9223372036854775808) (root : HT) (hT : Tab w) (hK : ∀ w', Kept Nil w w' → K (.bool true) w') :
    Ret Tryd.prog law10_DagParts.id #[.agg root.1, .slice A n c] w K := by
  have hlen := hl.len
  refine law10_DagParts.of ?_
  unfold law10_DagParts.W
  intro w4
  have k4 : Kept Nil w w4 := (Kept.refl _ _).alloc _
  have hr4 : w4.heap[w.heap.size]? = some (.cells root.1 T_api_Hash (0, 0)) := new_blk w _
  clear_value w4
  refine few_ok (hl.keep k4 (fun _ _ h => h)) hn 30 fun x hx => ⟨x, rfl, ?_⟩
  cases x with
  | false => exact Split.yes rfl (known_ok fun w10 k10 => ⟨true, rfl, hK w10 (k4.trans k10 (fun _ _ h => h))⟩)
  | true =>
    obtain ⟨hps, hll⟩ := hx.1 rfl
    refine Split.no rfl ⟨root.1, ⟨root.2.1, Cells.blk hr4⟩, begin_ok (hl.keep k4 (fun _ _ h => h)) (by omega) hps root fun w16 S F g FR r B k16 _ _ _ _ => ⟨some ⟨g, 0, none⟩, some ⟨r, 0, none⟩, true, rfl, Split.no rfl ?_⟩⟩
    have k016 := k4.trans k16 (fun _ _ h => h)
    have W := buildD_W root l
    have hDl := buildD_len root l
    generalize buildD root l = D at B W hDl
    obtain ⟨bl, cc, mb, M, G⟩ := B.G
    have hG : ∀ {v : World}, Kept Nil w16 v → GV v S F g D (childL D) bl cc mb M := fun k => G.same k
    have hR : ∀ {v : World}, Kept Nil w16 v → IsR v FR r D := fun k => B.R.same k
    refine law10_DagParts.loop1 (I := fun s v => ∃ i : Nat, s = (false, (i : Int)) ∧ i ≤ D.length ∧ Kept Nil w16 v) (μ := fun s _ => ((D.length : Int) - s.2).toNat) (s := (false, 0)) ⟨0, rfl, Nat.zero_le _, Kept.refl _ _⟩ ?_
    rintro s v ⟨i, rfl, hiD, kv⟩
    refine (hR kv).go fun A9 c9 hns9 => Split.dec (fun hil0 => ?_) (fun hge => ?_)
    · simp only at hil0
      have hil : i < D.length := by omega
      obtain ⟨nd, hnd⟩ : ∃ nd, D[i]? = some nd := ⟨_, List.getElem?_eq_getElem hil⟩
      have hh : nd.id ∈ ids D := ids_mem.2 ⟨nd, List.mem_of_getElem? hnd, rfl⟩
      refine (hR kv).go fun A10 c10 hns10 => ?_
      refine hns10.id (i := (i : Int)) (by omega) (by rw [Int.toNat_natCast]; exact hnd) ?_
      obtain ⟨hwr, hbx, hkx⟩ := box_set (w := v) (z := (#[.int .u8 0, .int .u8 0, .int .u8 0, .int .u8 0, .int .u8 0, .int .u8 0, .int .u8 0, .int .u8 0, .int .u8 0, .int .u8 0, .int .u8 0, .int .u8 0, .int .u8 0, .int .u8 0, .int .u8 0, .int .u8 0, .int .u8 0, .int .u8 0, .int .u8 0, .int .u8 0, .int .u8 0, .int .u8 0, .int .u8 0, .int .u8 0, .int .u8 0, .int .u8 0, .int .u8 0, .int .u8 0, .int .u8 0, .int .u8 0, .int .u8 0, .int .u8 0] : Array Value)) (cs := nd.id.1) (t := T_api_Hash) (by rw [nd.id.2.1]; rfl)
      intro w26
      refine ⟨⟨nd.id.2.1, fun u hu => (hcells_one [nd.id] u (by simpa [hcells] using hu)), fun j hj => hwr j (by rw [nd.id.2.1]; exact hj)⟩, ?_⟩
      intro w29 w30
      have k30 : Kept Nil w29 w30 := (Kept.refl _ _).drew
      have hbx30 : w30.heap[v.heap.size]? = some (.cells nd.id.1 T_api_Hash (0, 0)) := k30.heap hbx (fun h => h)
      have kx30 : Kept Nil v w30 := hkx.trans k30 (fun _ _ h => h)
      clear_value w30
      clear k30 hbx hkx hwr w29 w26
      have k030 := kv.trans kx30 (fun _ _ h => h)
      have hG30 : ∀ {u : World}, Kept Nil w30 u → GV u S F g D (childL D) bl cc mb M := fun k => hG (k030.trans k (fun _ _ h => h))
      have hT30 : Tab w30 := hT.same (k016.trans k030 (fun _ _ h => h))
      have hcs : ∀ {v' : World}, Kept Nil w30 v' → ∃ cs : Array Value, (.agg nd.id.1 : Value) = .agg cs ∧ cs.size = 32 ∧ Cells v' (⟨v.heap.size, 0, none⟩ : Addr) cs := fun k => ⟨nd.id.1, rfl, nd.id.2.1, Cells.blk (k.heap hbx30 (fun h => h))⟩
      have p1 := pick_len D fun a => ∃ x ∈ [nd.id], Anc D a x
      change (pastsL D [nd.id]).length ≤ _ at p1
      have c0 : nd.id.1.size = 32 ∧ Cells w30 (⟨v.heap.size, 0, none⟩ : Addr) nd.id.1 := ⟨nd.id.2.1, Cells.blk hbx30⟩
      -- what follows the four
      have last : ∀ {A' : Option Addr} {n' c' : Nat} {u : World} {Q : Post}, HRow u w30.heap.size A' n' c' ([nd.id] ++ pastsL D [nd.id] ++ futureL D nd.id ++ antiL D nd.id) → Kept Nil w30 u →
          (∀ y, Kept Nil u y → Q .normal [(4, .bool false), (5, .pointer (some ⟨g, 0, none⟩)), (6, .pointer (some ⟨r, 0, none⟩)), (8, .int .i64 ((i : Int) + 1))] y) →
          law10_DagParts.J1 false (some ⟨g, 0, none⟩) (some ⟨r, 0, none⟩) (i : Int) ⟨v.heap.size, 0, none⟩ A' n' c' Q u := fun row ku hQ =>
        parts_J1 (fun k => hG30 (ku.trans k (fun _ _ h => h))) W (by omega) (hT30.same ku) hh (ku.heap hbx30 (fun h => h)) row (by omega) hQ
      refine ⟨nd.id.1, c0, nd.id.1, c0, nd.id.1, c0, nd.id.1, c0, ⟨nd.id.2.1, ?_⟩, nd.id.2.1, ?_⟩
      · -- the one itself first
        intro w35
        have k35 : Kept Nil w30 w35 := (Kept.refl _ _).alloc _
        have hb35 : w35.heap[w30.heap.size]? = some (.cells (nd.id.1.toList ++ []).toArray T_api_Hash (0, 0)) := new_blk w30 _
        clear_value w35
        refine ⟨hcs k35, hcs k35, hcs k35, nd.id.2.1, ?_⟩
        intro w36
        have k36 : Kept Nil w35 w36 := (Kept.refl _ _).alloc _
        have hx36 : HS w36 (some ⟨w35.heap.size, 0, none⟩) 1 [nd.id] := hbox w35 nd.id
        clear_value w36
        have k36' := k35.trans k36 (fun _ _ h => h)
        refine ⟨hcs k36', hcs k36', ?_⟩
        refine dag_Past (hG30 k36') W (by omega) (hT30.same k36') hx36 (by omega) fun A7 c7 w7 row7 k7 => ⟨A7, _, c7, rfl, ?_⟩
        have k7' := k36'.trans k7 (fun _ _ h => h)
        have row0 : HRow w7 w30.heap.size (some ⟨w30.heap.size, 0, none⟩) 1 1 [nd.id] := HRow.box ((k36.trans k7 (fun _ _ h => h)).heap hb35 (fun h => h)) (Nat.le_refl _)
        obtain ⟨A8, c8, w8, hr8, row8, hg8, _⟩ := append_hs (cx := c7) T_sl_api_Hash row0 row7.hs (by omega) k7'.size
        have k8 : Kept Nil w30 w8 := Kept.growNew k7' hg8 (fun k hk => (Row.blk row0 hk).1)
        refine ⟨hcs k7', hcs k7', A8, _, c8, w8, hr8, ?_⟩
        refine parts_tail hG30 W (by omega) hbx30 row8 (by omega) k8 fun A' n' c' u row' ku => law10_DagParts.join1 (last row' ku fun y ky => ?_)
        exact ⟨(false, (i : Int) + 1), rfl, ⟨i + 1, rfl, hil, (k030.trans ku (fun _ _ h => h)).trans ky (fun _ _ h => h)⟩, by simp only; omega⟩
      · intro w52
        have k52 : Kept Nil w30 w52 := (Kept.refl _ _).alloc _
        have hx52 : HS w52 (some ⟨w30.heap.size, 0, none⟩) 1 [nd.id] := hbox w30 nd.id
        clear_value w52
        refine ⟨hcs k52, hcs k52, hcs k52, ⟨nd.id.2.1, ?_⟩, ?_⟩
        · intro w53
          have k53 : Kept Nil w52 w53 := (Kept.refl _ _).alloc _
          have hb53 : w53.heap[w52.heap.size]? = some (.cells (nd.id.1.toList ++ []).toArray T_api_Hash (0, 0)) := new_blk w52 _
          clear_value w53
          have k53' := k52.trans k53 (fun _ _ h => h)
          refine ⟨hcs k53', hcs k53', ?_⟩
          refine dag_Past (hG30 k53') W (by omega) (hT30.same k53') (hx52.same k53) (by omega) fun A7 c7 w7 row7 k7 => ⟨A7, _, c7, rfl, ?_⟩
          have k7' := k53'.trans k7 (fun _ _ h => h)
          have row0 : HRow w7 w30.heap.size (some ⟨w52.heap.size, 0, none⟩) 1 1 [nd.id] := HRow.box (k7.heap hb53 (fun h => h)) k52.size
          obtain ⟨A8, c8, w8, hr8, row8, hg8, _⟩ := append_hs (cx := c7) T_sl_api_Hash row0 row7.hs (by omega) k7'.size
          have k8 : Kept Nil w30 w8 := Kept.growNew k7' hg8 (fun k hk => (Row.blk row0 hk).1)
          refine ⟨hcs k7', hcs k7', A8, _, c8, w8, hr8, ?_⟩
          refine parts_tail hG30 W (by omega) hbx30 row8 (by omega) k8 fun A' n' c' u row' ku => law10_DagParts.join1 (last row' ku fun y ky => ?_)
          exact ⟨(false, (i : Int) + 1), rfl, ⟨i + 1, rfl, hil, (k030.trans ku (fun _ _ h => h)).trans ky (fun _ _ h => h)⟩, by simp only; omega⟩
        · refine dag_Past (hG30 k52) W (by omega) (hT30.same k52) hx52 (by omega) fun A7 c7 w7 row7 k7 => ⟨A7, _, c7, rfl, ?_⟩
          have k7' := k52.trans k7 (fun _ _ h => h)
          refine ⟨hcs k7', hcs k7', hcs k7', nd.id.2.1, ?_⟩
          intro w72
          have k72 : Kept Nil w7 w72 := (Kept.refl _ _).alloc _
          have hb72 : w72.heap[w7.heap.size]? = some (.cells (nd.id.1.toList ++ []).toArray T_api_Hash (0, 0)) := new_blk w7 _
          clear_value w72
          have k72' := k7'.trans k72 (fun _ _ h => h)
          have row0 : HRow w72 w30.heap.size (some ⟨w7.heap.size, 0, none⟩) 1 1 [nd.id] := HRow.box hb72 k7'.size
          obtain ⟨A8, c8, w8, hr8, row8, hg8, _⟩ := append_hs (cx := c7) T_sl_api_Hash row0 (row7.hs.same k72) (by omega) k72'.size
          have k8 : Kept Nil w30 w8 := Kept.growNew k72' hg8 (fun k hk => (Row.blk row0 hk).1)
          refine ⟨hcs k72', hcs k72', A8, _, c8, w8, hr8, ?_⟩
          refine parts_tail hG30 W (by omega) hbx30 row8 (by omega) k8 fun A' n' c' u row' ku => law10_DagParts.join1 (last row' ku fun y ky => ?_)
          exact ⟨(false, (i : Int) + 1), rfl, ⟨i + 1, rfl, hil, (k030.trans ku (fun _ _ h => h)).trans ky (fun _ _ h => h)⟩, by simp only; omega⟩
    · simp only at hge
      rw [roundQ_exit, law10_DagParts.x1_0]
      unfold law10_DagParts.X1_0
      exact known_ok fun w26 k26 => ⟨true, rfl, hK w26 ((k016.trans kv (fun _ _ h => h)).trans k26 (fun _ _ h => h))⟩
end
end Go.Proofs.YtljckpecmlnbiaaDoor
/-
  The walk of DagApart.
-/
namespace Go.Proofs.YtljckpecmlnbiaaDoor
open Go Go.Lite Go.RowKit

/-- two pairs of graphs, apart in memory -/
structure Two (w : World) (S F : Nat → Prop) (g : Nat) (FR : Nat → Prop) (r : Nat) (D : DG) (S2 F2 : Nat → Prop) (g2 : Nat) (FR2 : Nat → Prop) (r2 : Nat) (D2 : DG) : Prop where
  A : Both w S F g FR r D
  B : Both w S2 F2 g2 FR2 r2 D2
  ss : ∀ k, S k → ¬ S2 k
  fs : ∀ k, F k → ¬ S2 k
  sf : ∀ k, F2 k → ¬ S k
  frs : ∀ k, FR k → ¬ S2 k
  sfr : ∀ k, FR2 k → ¬ S k
  rs : ¬ S2 r
  rf : ¬ F2 r
  rfr : ¬ FR2 r
  sr : ¬ S r2
  fr : ¬ F r2
  frr : ¬ FR r2
  rr : r ≠ r2
section
variable {w v w' : World} {S F S2 F2 FR FR2 S' F' : Nat → Prop} {g r g2 r2 : Nat} {D D2 D' : DG}
theorem Two.swap (T : Two w S F g FR r D S2 F2 g2 FR2 r2 D2) : Two w S2 F2 g2 FR2 r2 D2 S F g FR r D :=
  ⟨T.B, T.A, fun k h h' => T.ss k h' h, T.sf, T.fs, T.sfr, T.frs, T.sr, T.fr, T.frr, T.rs, T.rf, T.rfr, fun e => T.rr e.symm⟩
theorem Two.same (T : Two w S F g FR r D S2 F2 g2 FR2 r2 D2) (k : Kept Nil w w') : Two w' S F g FR r D S2 F2 g2 FR2 r2 D2 :=
  ⟨T.A.same k, T.B.same k, T.ss, T.fs, T.sf, T.frs, T.sfr, T.rs, T.rf, T.rfr, T.sr, T.fr, T.frr, T.rr⟩
theorem IsG.low (h : IsG w S F g D) : ∀ k, S k ∨ F k → k < w.heap.size := by obtain ⟨bl, c, mb, M, G⟩ := h; exact G.low
theorem Two.after (T : Two w S F g FR r D S2 F2 g2 FR2 r2 D2) (kv : Kept S w v) (hS : ∀ k, S' k → S k ∨ w.heap.size ≤ k) (hF : ∀ k, F' k → F k ∨ w.heap.size ≤ k) (hG : IsG v S' F' g D') :
    IsR v FR r D ∧ ∀ u, IsR u (fun k => FR k ∨ (v.heap.size ≤ k ∧ k < u.heap.size)) r D' → Kept (· = r) v u → Two u S' F' g (fun k => FR k ∨ (v.heap.size ≤ k ∧ k < u.heap.size)) r D' S2 F2 g2 FR2 r2 D2 := by
  obtain ⟨h1, h2⟩ := T.A.after kv hS hF hG
  refine ⟨h1, fun u hR ku => ?_⟩
  have hlow := T.B.G.low
  have hr2 := T.B.R.lt
  have hvs := kv.size
  have B' : Both u S2 F2 g2 FR2 r2 D2 := (T.B.keep kv (fun k h h' => T.ss k h' h) (fun k h => T.sf k h) T.sr (fun k h => T.sfr k h)).keep ku (fun k h e => T.rs (e ▸ h)) (fun k h e => T.rf (e ▸ h)) (fun e => T.rr e.symm) (fun k h e => T.rfr (e ▸ h))
  refine ⟨h2 u hR ku, B', fun k h h' => ?_, fun k h h' => ?_, fun k h h' => ?_, fun k h h' => ?_, fun k h h' => ?_, T.rs, T.rf, T.rfr, fun h => ?_, fun h => ?_, fun h => ?_, T.rr⟩
  · rcases hS k h with h | h
    · exact T.ss k h h'
    · have := hlow k (.inl h'); omega
  · rcases hF k h with h | h
    · exact T.fs k h h'
    · have := hlow k (.inl h'); omega
  · rcases hS k h' with h2 | h2
    · exact T.sf k h h2
    · have := hlow k (.inr h); omega
  · rcases h with h | h
    · exact T.frs k h h'
    · have := hlow k (.inl h'); omega
  · rcases hS k h' with h2 | h2
    · exact T.sfr k h h2
    · have := T.B.low k h; omega
  · rcases hS r2 h with h | h
    · exact T.sr h
    · omega
  · rcases hF r2 h with h | h
    · exact T.fr h
    · omega
  · rcases h with h | h
    · exact T.frr h
    · omega
/-- behind the copy -/
theorem Two.of (B : Both w S F g FR r D) (kv : Kept Nil w v) (hG : IsG v S2 F g2 D) (hS2 : ∀ k, S2 k → w.heap.size ≤ k) {A : Option Addr} {c : Nat} (hv : v.heap[r2]? = some (.cells #[.slice A D.length c] T_plexusref10_Graph (0, 0))) (hns : NS w FR A D.length D)
    (h1 : ¬ S2 r2) (h2 : w.heap.size ≤ r2) : Two v S F g FR r D S2 F g2 FR r2 D := by
  have hlow := B.G.low
  have hr := B.R.lt
  have nF : ¬ F r2 := fun h => by have := hlow r2 (.inr h); omega
  have nFR : ¬ FR r2 := fun h => by have := B.low r2 h; omega
  have nfs : ∀ k, FR k → ¬ S2 k := fun k h h' => by have := B.low k h; have := hS2 k h'; omega
  refine ⟨B.same kv, ⟨hG, ⟨⟨A, c, hv, hns.keep kv (fun _ _ h => h)⟩, nFR⟩, h1, nF, nfs, fun k h => Nat.lt_of_lt_of_le (B.low k h) kv.size⟩, fun k h h' => ?_, fun k h h' => ?_, fun k h h' => ?_, nfs, B.fS, fun h => ?_, B.rF, fun h => B.R.far h, fun h => ?_, nF, nFR, fun e => by omega⟩
  · have := hlow k (.inl h); have := hS2 k h'; omega
  · have := hlow k (.inr h); have := hS2 k h'; omega
  · obtain ⟨bl, cc, mb, M, G⟩ := B.G
    exact G.dis k h' h
  · have := hS2 r h; omega
  · have := hlow r2 (.inl h); omega
end
def addAll (D : DG) (l : List DN) : DG := l.foldl (fun D nd => addD D nd.id nd.ps) D
theorem addAll_W {D : DG} (W : WfD D) : ∀ l : List DN, WfD (addAll D l) := fun l => by
  unfold addAll
  induction l generalizing D with
  | nil => exact W
  | cons nd l ih => exact ih (W.add nd.id nd.ps)

section
variable {w w' : World} {FP : Nat → Prop} {K : Value → World → Prop}
theorem apart_ok {A : Option Addr} {n c : Nat} {l : List DN} (hl : NS w FP A n l) (hn : n < 9223372036854775808) {A2 : Option Addr} {n2 c2 : Nat} {l2 : List DN} (hl2 : NS w FP A2 n2 l2) (hn2 : n2 < 9223372036854775808)
    {A3 : Option Addr} {n3 c3 : Nat} {l3 : List DN} (hl3 : NS w FP A3 n3 l3) (hn3 : n3 < 9223372036854775808) (root : HT) (hT : Tab w) (hK : ∀ w', Kept Nil w w' → K (.bool true) w') :
    Ret Tryd.prog law10_DagApart.id #[.agg root.1, .slice A n c, .slice A2 n2 c2, .slice A3 n3 c3] w K := by
  have hlen := hl.len
  have hlen2 := hl2.len
  have hlen3 := hl3.len
  refine law10_DagApart.of ?_
  unfold law10_DagApart.W
  intro w4
  have k4 : Kept Nil w w4 := (Kept.refl _ _).alloc _
  have hr4 : w4.heap[w.heap.size]? = some (.cells root.1 T_api_Hash (0, 0)) := new_blk w _
  clear_value w4
  have hkn : ∀ {v : World}, Kept Nil w v → Ret Tryd.prog law10_known.id #[] v fun v6 w_7 => ∃ t : Bool, v6 = .bool t ∧ K (.bool t) w_7 := fun k => known_ok fun w10 k10 => ⟨true, rfl, hK w10 (k.trans k10 (fun _ _ h => h))⟩
  refine few_ok (hl.keep k4 (fun _ _ h => h)) hn 20 fun x hx => ⟨x, rfl, ?_⟩
  cases x with
  | false => exact Split.yes rfl (hkn k4)
  | true =>
  obtain ⟨hps, hll⟩ := hx.1 rfl
  refine Split.no rfl (few_ok (hl2.keep k4 (fun _ _ h => h)) hn2 20 fun x hx => ⟨x, rfl, ?_⟩)
  cases x with
  | false => exact Split.yes rfl (hkn k4)
  | true =>
  obtain ⟨hps2, hll2⟩ := hx.1 rfl
  refine Split.no rfl (few_ok (hl3.keep k4 (fun _ _ h => h)) hn3 20 fun x hx => ⟨x, rfl, ?_⟩)
  cases x with
  | false => exact Split.yes rfl (hkn k4)
  | true =>
  obtain ⟨hps3, hll3⟩ := hx.1 rfl
  refine Split.no rfl ⟨root.1, ⟨root.2.1, Cells.blk hr4⟩, begin_ok (hl.keep k4 (fun _ _ h => h)) (by omega) hps root fun w16 S F g FR r B k16 nS nF nR nr => ⟨some ⟨g, 0, none⟩, some ⟨r, 0, none⟩, true, rfl, Split.no rfl ?_⟩⟩
  have k016 := k4.trans k16 (fun _ _ h => h)
  have W := buildD_W root l
  have hDl := buildD_len root l
  generalize buildD root l = D at B W hDl
  have s4 := k4.size
  intro w30
  have k30 : Kept Nil w16 w30 := (Kept.refl _ _).drew
  clear_value w30
  have k030 := k016.trans k30 (fun _ _ h => h)
  replace B := B.same k30
  obtain ⟨RA, rc, hrr, hns⟩ := B.R.ex
  have hcell : ∀ {v : World}, Kept Nil w30 v → v.cell? ((⟨r, 0, none⟩ : Addr).add 0) = some (.slice RA D.length rc) := fun k => by rw [add_zero, cell_blk (k.heap hrr (fun h => h))]; rfl
  obtain ⟨bl, cc, mb, M, G⟩ := B.G
  -- the two series
  have main : ∀ {v : World} {S2 : Nat → Prop} {o r2 : Nat}, Two v S F g FR r D S2 F o FR r2 D → Kept Nil w30 v → (∀ k, S2 k → w30.heap.size ≤ k) → w30.heap.size ≤ r2 →
      Holds none [] Tryd.prog Tryd.f6.ntmps (.loop (lB (bB (sR (sL (sR (sR (sR (sR (sR (body Tryd.f6))))))))))) (law10_DagApart.q1 K) (law10_DagApart.e1 A2 n2 c2 A3 n3 c3 (some ⟨g, 0, none⟩) (some ⟨r, 0, none⟩) (some ⟨o, 0, none⟩) ⟨r2, 0, none⟩ (false, 0)) v := by
    intro v S2 o r2 T kv nS2 nr2
    have k0v := k030.trans kv (fun _ _ h => h)
    refine law10_DagApart.loop1 (I := fun s u => ∃ (i : Nat) (S' F' FR' : Nat → Prop), s = (false, (i : Int)) ∧ i ≤ l2.length ∧ Two u S' F' g FR' r (addAll D (l2.take i)) S2 F o FR r2 D ∧ Kept Nil w u ∧ (∀ k, S' k → w.heap.size ≤ k) ∧ (∀ k, F' k → w.heap.size ≤ k)) (μ := fun s _ => ((n2 : Int) - s.2).toNat) (s := (false, 0))
      ⟨0, S, F, FR, rfl, Nat.zero_le _, by simpa [addAll] using T, k0v, fun k h => Nat.le_trans s4 (nS k h), fun k h => Nat.le_trans s4 (nF k h)⟩ ?_
    rintro s u ⟨i, S', F', FR', rfl, hi, T1, ku, mS, mF⟩
    unfold law10_DagApart.B1
    refine Split.dec (fun hil0 => ?_) (fun hge => ?_)
    · simp only at hil0
      have hil : i < n2 := by omega
      obtain ⟨nd, hnd⟩ : ∃ nd, l2[i]? = some nd := ⟨_, List.getElem?_eq_getElem (by omega)⟩
      have hnd' : l2[(i : Int).toNat]? = some nd := by rw [Int.toNat_natCast]; exact hnd
      have hpl := hps2 nd (List.mem_of_getElem? hnd)
      intro w29
      have k29 : Kept Nil u w29 := (Kept.refl _ _).drew
      clear_value w29
      have kw29 := ku.trans k29 (fun _ _ h => h)
      refine (hl2.keep kw29 (fun _ _ h => h)).id (i := (i : Int)) (by omega) hnd' ?_
      obtain ⟨a, pA, pn, pc, hA, ha2, _, ha4, hps4, _⟩ := hl2.at_ i nd hnd
      subst hA
      have hcell : ∀ {u : World}, Kept Nil w u → u.cell? ((a.add ((i : Int).toNat * 33)).add 32) = some (.slice pA pn pc) := fun k => by
        rw [Int.toNat_natCast]
        exact k.cell (ha4 32 _ (push_last _ _)) (fun h => h)
      have hcs : ∀ {u : World}, Kept Nil w u → Cells u ((a.add ((i : Int).toNat * 33)).add 0) nd.id.1 := fun k j x hj => by
        rw [Int.toNat_natCast, add_zero]
        exact k.cell (ha4 j x (push_get hj)) (fun h => h)
      have hb : 0 ≤ (i : Int) ∧ (i : Int) < (n2 : Int) := ⟨by omega, by omega⟩
      have hpn := hps4.len
      refine ⟨hb, pA, pn, pc, hcell kw29, hb, nd.id.1, ⟨nd.id.2.1, hcs kw29⟩, hb, pA, pn, pc, hcell kw29, ?_⟩
      have hAl := addAll_len (l2.take i) D
      rw [List.length_take] at hAl
      change (addAll D (l2.take i)).length ≤ _ at hAl
      have W1 := addAll_W W (l2.take i)
      have T29 := T1.same k29
      obtain ⟨bl1, cc1, mb1, M1, G29⟩ := T29.A.G
      refine dag_Add G29 W1 (by omega) (hps4.same kw29) (by omega) nd.id fun w39 S3 F3 hG39 k39 hS3 hF3 => ⟨_, rfl, ?_⟩
      have hs29 := kw29.size
      have kw39 : Kept Nil w w39 := kw29.trans k39 (fun k hk h => absurd (mS k h) (by omega))
      have hs39 := kw39.size
      obtain ⟨R39, hafter⟩ := T29.after k39 hS3 hF3 hG39
      refine ⟨hcell kw39, ⟨nd.id.1, rfl, nd.id.2.1, hcs kw39⟩, ref_Add R39 W1 (by omega) (hps4.same kw39) (by omega) fun w42 R42 k42 => ⟨_, rfl, ?_⟩⟩
      refine Split.no (by simp) ?_
      rw [wrapP (n := (i : Int)) (by omega) (by omega)]
      refine ⟨(false, (i : Int) + 1), rfl, ⟨i + 1, S3, F3, fun k => FR' k ∨ (w39.heap.size ≤ k ∧ k < w42.heap.size), rfl, by omega, ?_, kw39.trans k42 (fun k hk e => by omega), fun k hk => ?_, fun k hk => ?_⟩, by simp only; omega⟩
      · have e : addAll D (l2.take (i + 1)) = addD (addAll D (l2.take i)) nd.id nd.ps := addAll_snoc hnd
        rw [e]
        exact hafter w42 R42 k42
      · rcases hS3 k hk with h | h
        · exact mS k h
        · omega
      · rcases hF3 k hk with h | h
        · exact mF k h
        · omega
    · simp only at hge
      have : i = l2.length := by omega
      subst this
      rw [roundQ_exit, law10_DagApart.x1_0]
      unfold law10_DagApart.X1_0
      rw [List.take_of_length_le (Nat.le_refl _)] at T1
      have W1 := addAll_W W l2
      have hAl1 := addAll_len l2 D
      change (addAll D l2).length ≤ _ at hAl1
      generalize addAll D l2 = D1 at T1 W1 hAl1
      refine law10_DagApart.loop2 (I := fun s u => ∃ (i : Nat) (S4 F4 FR4 : Nat → Prop), s = (false, (i : Int)) ∧ i ≤ l3.length ∧ Two u S' F' g FR' r D1 S4 F4 o FR4 r2 (addAll D (l3.take i)) ∧ Kept Nil w u ∧ (∀ k, S4 k → w.heap.size ≤ k) ∧ (∀ k, F4 k → w.heap.size ≤ k)) (μ := fun s _ => ((n3 : Int) - s.2).toNat) (s := (false, 0))
        ⟨0, S2, F, FR, rfl, Nat.zero_le _, by simpa [addAll] using T1, ku, fun k h => Nat.le_trans k030.size (nS2 k h), fun k h => Nat.le_trans s4 (nF k h)⟩ ?_
      rintro s u ⟨i, S4, F4, FR4, rfl, hi, T2, ku2, mS4, mF4⟩
      unfold law10_DagApart.B2
      refine Split.dec (fun hil0 => ?_) (fun hge => ?_)
      · simp only at hil0
        have hil : i < n3 := by omega
        obtain ⟨nd, hnd⟩ : ∃ nd, l3[i]? = some nd := ⟨_, List.getElem?_eq_getElem (by omega)⟩
        have hnd' : l3[(i : Int).toNat]? = some nd := by rw [Int.toNat_natCast]; exact hnd
        have hpl := hps3 nd (List.mem_of_getElem? hnd)
        intro w29
        have k29 : Kept Nil u w29 := (Kept.refl _ _).drew
        clear_value w29
        have kw29 := ku2.trans k29 (fun _ _ h => h)
        refine (hl3.keep kw29 (fun _ _ h => h)).id (i := (i : Int)) (by omega) hnd' ?_
        obtain ⟨a, pA, pn, pc, hA, ha2, _, ha4, hps4, _⟩ := hl3.at_ i nd hnd
        subst hA
        have hcell : ∀ {u : World}, Kept Nil w u → u.cell? ((a.add ((i : Int).toNat * 33)).add 32) = some (.slice pA pn pc) := fun k => by
          rw [Int.toNat_natCast]
          exact k.cell (ha4 32 _ (push_last _ _)) (fun h => h)
        have hcs : ∀ {u : World}, Kept Nil w u → Cells u ((a.add ((i : Int).toNat * 33)).add 0) nd.id.1 := fun k j x hj => by
          rw [Int.toNat_natCast, add_zero]
          exact k.cell (ha4 j x (push_get hj)) (fun h => h)
        have hb : 0 ≤ (i : Int) ∧ (i : Int) < (n3 : Int) := ⟨by omega, by omega⟩
        have hpn := hps4.len
        refine ⟨hb, pA, pn, pc, hcell kw29, hb, nd.id.1, ⟨nd.id.2.1, hcs kw29⟩, hb, pA, pn, pc, hcell kw29, ?_⟩
        have hAl := addAll_len (l3.take i) D
        rw [List.length_take] at hAl
        change (addAll D (l3.take i)).length ≤ _ at hAl
        have W2 := addAll_W W (l3.take i)
        have T29 := (T2.same k29).swap
        obtain ⟨bl1, cc1, mb1, M1, G29⟩ := T29.A.G
        refine dag_Add G29 W2 (by omega) (hps4.same kw29) (by omega) nd.id fun w39 S3 F3 hG39 k39 hS3 hF3 => ⟨_, rfl, ?_⟩
        have hs29 := kw29.size
        have kw39 : Kept Nil w w39 := kw29.trans k39 (fun k hk h => absurd (mS4 k h) (by omega))
        have hs39 := kw39.size
        have hs030 := k030.size
        obtain ⟨R39, hafter⟩ := T29.after k39 hS3 hF3 hG39
        refine ⟨hcell kw39, ⟨nd.id.1, rfl, nd.id.2.1, hcs kw39⟩, ref_Add R39 W2 (by omega) (hps4.same kw39) (by omega) fun w42 R42 k42 => ⟨_, rfl, ?_⟩⟩
        refine Split.no (by simp) ?_
        rw [wrapP (n := (i : Int)) (by omega) (by omega)]
        refine ⟨(false, (i : Int) + 1), rfl, ⟨i + 1, S3, F3, fun k => FR4 k ∨ (w39.heap.size ≤ k ∧ k < w42.heap.size), rfl, by omega, ?_, kw39.trans k42 (fun k hk e => by omega), fun k hk => ?_, fun k hk => ?_⟩, by simp only; omega⟩
        · have e : addAll D (l3.take (i + 1)) = addD (addAll D (l3.take i)) nd.id nd.ps := addAll_snoc hnd
          rw [e]
          exact (hafter w42 R42 k42).swap
        · rcases hS3 k hk with h | h
          · exact mS4 k h
          · omega
        · rcases hF3 k hk with h | h
          · exact mF4 k h
          · omega
      · simp only at hge
        have : i = l3.length := by omega
        subst this
        rw [roundQ_exit, law10_DagApart.x2_2]
        unfold law10_DagApart.X2_2
        rw [List.take_of_length_le (Nat.le_refl _)] at T2
        have W2 := addAll_W W l3
        have hAl2 := addAll_len l3 D
        change (addAll D l3).length ≤ _ at hAl2
        refine same_ok T2.A W1 (by omega) (hT.same ku2) fun w102 k102 => ⟨true, rfl, Split.yes rfl ?_⟩
        have k0102 := ku2.trans k102 (fun _ _ h => h)
        refine same_ok (T2.B.same k102) W2 (by omega) (hT.same k0102) fun w105 k105 => ⟨true, rfl, Split.yes rfl (hkn (k0102.trans k105 (fun _ _ h => h)))⟩
  refine Is.mk rfl ⟨RA, D.length, rc, hcell (Kept.refl _ _), ?_, ?_⟩
  · refine dag_Copy G (by omega) W.pos fun w34 o hG34 k34 => ⟨some ⟨o, 0, none⟩, rfl, hcell k34, ?_⟩
    intro w36
    have k36 : Kept Nil w34 w36 := (Kept.refl _ _).alloc _
    have hv : w36.heap[w34.heap.size]? = some (.cells #[.slice RA D.length rc] T_plexusref10_Graph (0, 0)) := new_blk w34 _
    clear_value w36
    have k36' := k34.trans k36 (fun _ _ h => h)
    exact main (Two.of B k36' (hG34.same k36) (fun k h => h.1) hv hns (fun h => by have := h.2; omega) k34.size) k36' (fun k h => h.1) k34.size
  · intro w37
    have k37 : Kept Nil w30 w37 := (Kept.refl _ _).alloc _
    have hv : w37.heap[w30.heap.size]? = some (.cells #[.slice RA D.length rc] T_plexusref10_Graph (0, 0)) := new_blk w30 _
    have hsz : w30.heap.size < w37.heap.size := lt_blk hv
    clear_value w37
    refine dag_Copy (G.same k37) (by omega) W.pos fun w39 o hG39 k39 => ⟨some ⟨o, 0, none⟩, rfl, ?_⟩
    have k39' := k37.trans k39 (fun _ _ h => h)
    exact main (Two.of B k39' hG39 (fun k h => by have := h.1; omega) (k39.heap hv (fun h => h)) hns (fun h => by have := h.1; omega) (Nat.le_refl _)) k39' (fun k h => by have := h.1; omega) (Nat.le_refl _)
end
end Go.Proofs.YtljckpecmlnbiaaDoor
/-
  What the frames of the dag's laws share: hashes, lists of hashes and lists of steps that came in, as the walks want them; the table that is laid.
-/
namespace Go.Proofs.YtljckpecmlnbiaaDoor
open Go Go.Lite Go.ChangeShapes Go.WideShapes Go.ChangeAt Go.RowKit
set_option linter.unusedVariables false

theorem ownNone : ownKnob Tryd.prog.godebug = none := by kernel_rfl
theorem laidOut : laidOutB Tryd.prog = true := by kernel_rfl
theorem frU8 : Tryd.prog.underlying T_uint8 = some (.int .u8) := by kernel_rfl
theorem frHash : Tryd.prog.underlying T_api_Hash = some (.array 32 T_uint8) := by kernel_rfl
theorem frHashes : Tryd.prog.underlying T_sl_api_Hash = some (.slice T_api_Hash) := by kernel_rfl
theorem frC8 : Tryd.prog.cellsOf T_uint8 = 1 := by kernel_rfl
theorem frCH : Tryd.prog.cellsOf T_api_Hash = 32 := by kernel_rfl
theorem frCHs : Tryd.prog.cellsOf T_sl_api_Hash = 1 := by kernel_rfl

section
variable {H : Type} {enc : TypeId × Value → H} {w : World} {base : Nat} {sp : Nat → Bool} {held : Bool} {fuel : Nat} {cs : List Value} {x : DataW H × List MemPlace}
theorem wf_u8 {n : Int} (h : (Lit.int .u8 n).wf = true) : 0 ≤ n ∧ n < 256 := by
  have e1 : IntKind.u8.min = 0 := by decide
  have e2 : IntKind.u8.max = 255 := by decide
  simp only [Lit.wf, Bool.and_eq_true, decide_eq_true_iff, e1, e2] at h
  omega
theorem trod_agg {t e : TypeId} {n : Nat} (ht : Tryd.prog.underlying t = some (.array n e)) (h : DataW.trod enc Tryd.prog w base sp held fuel t cs = some x) :
    cs.length = Tryd.prog.cellsOf t ∧ ∃ ds p, x = (.agg ds, p) := by
  cases fuel with
  | zero => simp [DataW.trod] at h
  | succ fuel =>
    simp only [DataW.trod, ht] at h
    split at h
    · rename_i hl
      obtain ⟨xs, hm, hx⟩ := Option.map_eq_some_iff.1 h
      exact ⟨hl, _, _, hx.symm⟩
    · cases h
/-- a hash that was read -/
theorem isH_of (h : DataW.trod enc Tryd.prog w base sp held fuel T_api_Hash cs = some x) : isH cs.toArray := by
  obtain ⟨hl, ds, p, rfl⟩ := trod_agg frHash h
  rw [frCH] at hl
  refine ⟨by simpa using hl, fun v hv => ?_⟩
  obtain ⟨i, hi, rfl⟩ := List.mem_iff_getElem.1 hv
  simp only at hi
  obtain ⟨fuel', d, q, _, hd⟩ := Lib.array_elem frHash h i (by omega)
  rw [frC8, Nat.mul_one] at hd
  obtain ⟨z, hz, _, hw⟩ := DataW.trod_int frU8 hd
  have h0 := congrArg (·[0]?) hz
  simp only [List.getElem?_take, List.getElem?_drop] at h0
  simp at h0
  have := wf_u8 hw
  refine ⟨z, ?_, this.1, this.2⟩
  have h1 : cs[i]? = some cs[i] := by simp
  rw [h1] at h0
  simpa using h0
theorem cells_of {a : Addr} {n : Nat} (h : w.cells? base a n = some cs) : Cells w a cs.toArray ∧ cs.length = n := by
  obtain ⟨_, hl, hc⟩ := World.cells?_some h
  refine ⟨fun j v hj => ?_, hl⟩
  have hj' : cs[j]? = some v := by simpa using hj
  have := (List.getElem?_eq_some_iff.1 hj').1
  rw [hc j (by omega), hj']
/-- some hash -/
def hzero : HT := ⟨Array.replicate 32 (.int .u8 0), by simp, fun v hv => ⟨0, by simp at hv; exact hv, by omega, by omega⟩⟩
/-- a list of hashes that was read -/
theorem hs_of (h : DataW.trod enc Tryd.prog w base sp held fuel T_sl_api_Hash cs = some x) :
    ∃ A n c l, cs = [.slice A n c] ∧ HS w A n l ∧ n ≤ maxLen := by
  rcases Deep.open_slice frHashes h with ⟨rfl, _⟩ | ⟨a, len, cap, m, k, D, Pl, rfl, _, hl, hm, hme, _, hel⟩
  · exact ⟨none, 0, 0, [], rfl, ⟨rfl, fun i h hi => by simp at hi⟩, by decide⟩
  · have hlm : len ≤ m := by rw [hme]; split <;> omega
    have hall : ∀ i, i < len → ∃ hh : HT, a.block < w.heap.size ∧ Cells w (a.add (i * 32)) hh.1 := fun i hi => by
      obtain ⟨cs', hc, hd⟩ := hel i (by omega)
      rw [frCH] at hc
      obtain ⟨h1, h2⟩ := cells_of hc
      have h3 := isH_of hd
      have h4 := h1 0 (cs'.toArray[0]'(by simp [h2])) (by simp [h2])
      have h5 := World.block_lt_of_cell? w _ h4
      rw [addr_block, addr_block] at h5
      exact ⟨⟨_, h3⟩, h5, h1⟩
    haveI : Inhabited HT := ⟨hzero⟩
    obtain ⟨f, hf⟩ := Deep.choose_lt hall
    refine ⟨some a, len, cap, (List.range len).map f, rfl, ⟨by simp, fun i y hi => ?_⟩, by omega⟩
    have hlt := (List.getElem?_eq_some_iff.1 hi).1
    simp only [List.length_map, List.length_range] at hlt
    simp [hlt] at hi
    subst hi
    exact ⟨a, rfl, (hf i hlt).1, (hf i hlt).2⟩
/-- a list of steps that was read -/
theorem ns_of {tS tSs : TypeId} {f0 f1 : Field} (hS : Tryd.prog.underlying tS = some (.struct #[f0, f1])) (h0 : f0.type = T_api_Hash ∧ f0.offset = 0) (h1 : f1.type = T_sl_api_Hash ∧ f1.offset = 32)
    (hcS : Tryd.prog.cellsOf tS = 33) (hSs : Tryd.prog.underlying tSs = some (.slice tS)) (h : DataW.trod enc Tryd.prog w base sp held fuel tSs cs = some x) :
    ∃ A n c l, cs = [.slice A n c] ∧ NS w (fun _ => True) A n l ∧ n ≤ maxLen := by
  rcases Deep.open_slice hSs h with ⟨rfl, _⟩ | ⟨a, len, cap, m, k, D, Pl, rfl, _, hl, hm, hme, _, hel⟩
  · exact ⟨none, 0, 0, [], rfl, ⟨rfl, fun i h hi => by simp at hi⟩, by decide⟩
  · have hlm : len ≤ m := by rw [hme]; split <;> omega
    have hall : ∀ i, i < len → ∃ nd : DN, a.block < w.heap.size ∧ ∃ pA pn pc, Cells w (a.add (i * 33)) (nd.id.1.push (.slice pA pn pc)) ∧ HS w pA pn nd.ps := fun i hi => by
      obtain ⟨cs', hc, hd⟩ := hel i (by omega)
      rw [hcS] at hc
      obtain ⟨g1, g2⟩ := cells_of hc
      obtain ⟨xs, n', rfl, _, _, hxl, hall⟩ := DataW.trod_struct hS hd
      have q0 := hall 0 f0 rfl
      have q1 := hall 1 f1 rfl
      rw [h0.1, h0.2, frCH] at q0
      rw [h1.1, h1.2, frCHs] at q1
      obtain ⟨x0, hx0⟩ : ∃ x0, xs[0]? = some x0 := ⟨xs[0]'(by simp at hxl; omega), by simp⟩
      obtain ⟨x1, hx1⟩ : ∃ x1, xs[1]? = some x1 := ⟨xs[1]'(by simp at hxl; omega), by simp⟩
      rw [hx0] at q0
      rw [hx1] at q1
      have hh := isH_of q0
      obtain ⟨pA, pn, pc, pl, hcs, hps, _⟩ := hs_of q1
      have h4 := g1 0 (cs'.toArray[0]'(by simp [g2])) (by simp [g2])
      have h5 := World.block_lt_of_cell? w _ h4
      rw [addr_block, addr_block] at h5
      refine ⟨⟨⟨_, hh⟩, pl⟩, h5, pA, pn, pc, ?_, hps⟩
      have e : cs' = (cs'.drop 0).take 32 ++ (cs'.drop 32).take 1 := by
        rw [List.drop_zero, List.take_of_length_le (l := cs'.drop 32) (by rw [List.length_drop]; omega), List.take_append_drop]
      have e2 : cs'.toArray = (((cs'.drop 0).take 32).toArray).push (.slice pA pn pc) := by
        conv => lhs; rw [e, hcs]
        simp
      rw [e2] at g1
      exact g1
    haveI : Inhabited DN := ⟨⟨hzero, []⟩⟩
    obtain ⟨f, hf⟩ := Deep.choose_lt hall
    refine ⟨some a, len, cap, (List.range len).map f, rfl, ⟨by simp, fun i y hi => ?_⟩, by omega⟩
    have hlt := (List.getElem?_eq_some_iff.1 hi).1
    simp only [List.length_map, List.length_range] at hlt
    simp [hlt] at hi
    subst hi
    obtain ⟨hb, pA, pn, pc, hc, hp⟩ := hf i hlt
    exact ⟨a, pA, pn, pc, rfl, hb, trivial, hc, hp, fun _ _ => trivial⟩
end
section
variable {H : Type} {enc : TypeId × Value → H} {w : World} {base : Nat} {sp : Nat → Bool} {held : Bool} {d : DataW H} {p : List MemPlace} {v : Value}

set_option maxRecDepth 100000 in
theorem arg_hash {t : TypeId} (et : t = T_api_Hash) (hv : Value.okWide Tryd.prog w .any base t v) (h : ∃ fuel, DataW.trod enc Tryd.prog w 0 sp held fuel t v.cells.toList = some (d, p)) : ∃ hh : HT, v = .agg hh.1 := by
  have ht : Tryd.prog.underlying t = some (.array 32 T_uint8) := by rw [et]; exact frHash
  simp only [Value.okWide, ht] at hv
  subst et
  obtain ⟨cs, rfl, h2, _⟩ := hv
  obtain ⟨fuel, h⟩ := h
  exact ⟨⟨cs, by simpa [Value.cells] using isH_of h⟩, rfl⟩
set_option maxRecDepth 100000 in
theorem arg_hashes {t : TypeId} (et : t = T_sl_api_Hash) (hv : Value.okWide Tryd.prog w .any base t v) (h : ∃ fuel, DataW.trod enc Tryd.prog w 0 sp held fuel t v.cells.toList = some (d, p)) :
    ∃ A n c l, v = .slice A n c ∧ HS w A n l ∧ n ≤ maxLen := by
  have ht : Tryd.prog.underlying t = some (.slice T_api_Hash) := by rw [et]; exact frHashes
  simp only [Value.okWide, ht, Cell.okWide] at hv
  obtain ⟨a0, len0, cap0, rfl⟩ : ∃ a len cap, v = .slice a len cap := by
    clear h
    cases v <;> simp_all [Cell.ok]
  clear hv
  subst et
  obtain ⟨fuel, h⟩ := h
  obtain ⟨A, n, c, l, he, h1, h2⟩ := hs_of h
  simp [Value.cells] at he
  obtain ⟨rfl, rfl, rfl⟩ := he
  exact ⟨_, _, _, l, rfl, h1, h2⟩
set_option maxRecDepth 100000 in
theorem arg_steps {tS tSs : TypeId} {f0 f1 : Field} (hS : Tryd.prog.underlying tS = some (.struct #[f0, f1])) (h0 : f0.type = T_api_Hash ∧ f0.offset = 0) (h1 : f1.type = T_sl_api_Hash ∧ f1.offset = 32)
    (hcS : Tryd.prog.cellsOf tS = 33) (hSs : Tryd.prog.underlying tSs = some (.slice tS)) (hv : Value.okWide Tryd.prog w .any base tSs v) (h : ∃ fuel, DataW.trod enc Tryd.prog w 0 sp held fuel tSs v.cells.toList = some (d, p)) :
    ∃ A n c l, v = .slice A n c ∧ NS w (fun _ => True) A n l ∧ n ≤ maxLen := by
  simp only [Value.okWide, hSs, Cell.okWide] at hv
  obtain ⟨a0, len0, cap0, rfl⟩ : ∃ a len cap, v = .slice a len cap := by
    clear h
    cases v <;> simp_all [Cell.ok]
  obtain ⟨fuel, h⟩ := h
  obtain ⟨A, n, c, l, he, h1, h2⟩ := ns_of hS h0 h1 hcS hSs h
  simp [Value.cells] at he
  obtain ⟨rfl, rfl, rfl⟩ := he
  exact ⟨_, _, _, l, rfl, h1, h2⟩
/-- the table that is laid -/
theorem tab_of (h : Lib.VarReads Tryd.prog w "math/bits.deBruijn64tab" Rows.laid_math_bits_deBruijn64tab) : Tab w := by
  obtain ⟨g, t, cs, fuel, p, hg, hty, hvar, hd⟩ := h
  obtain rfl : Tryd.tzL_ren.g 1 = g := Option.some.inj ((show Tryd.prog.globalNamed "math/bits.deBruijn64tab" = some (Tryd.tzL_ren.g 1) by kernel_rfl).symm.trans hg)
  have ht : ∃ e, Tryd.prog.underlying t = some (.array 64 e) ∧ Tryd.prog.underlying e = some (.int .u8) ∧ Tryd.prog.cellsOf e = 1 ∧ Tryd.prog.cellsOf t = 64 := by
    have e1 : (Tryd.prog.globals[Tryd.tzL_ren.g 1]?).map (·.type) = some T_arr64_uint8 := by kernel_rfl
    obtain rfl := Option.some.inj (e1.symm.trans hty)
    exact ⟨T_uint8, by kernel_rfl, frU8, frC8, by kernel_rfl⟩
  obtain ⟨e, h1, h2, h3, h4⟩ := ht
  have hcs := Lib.cells_of_tab (zs := Lib.deBruijn64tab.map fun (n : Nat) => (n : Int)) h1 h2 h3 h4 hd
  intro j hj
  rw [World.var?_cell hg hvar j, ← Array.getElem?_toList, hcs]
  simp [List.getD, hj]
end
end Go.Proofs.YtljckpecmlnbiaaDoor
/-
  What a graph that is not there, and a zero one, answer; the walk of DagNil.
-/
namespace Go.Proofs.YtljckpecmlnbiaaDoor
open Go Go.Lite Go.RowKit

/-- no graph: nil, or a zero one -/
def Noth (w : World) (p : Option Addr) : Prop := p = none ∨ ∃ b, p = some ⟨b, 0, none⟩ ∧ w.heap[b]? = some (.cells #[.slice none 0 0, .map none] T_dag_Graph (0, 0))
def hone : HT := hx 1 (by decide)
def hz0 : HT := hx 0 (by decide)
section
variable {w w' : World} {p : Option Addr} {K : Value → World → Prop}
theorem Noth.same (h : Noth w p) (k : Kept Nil w w') : Noth w' p := by
  rcases h with rfl | ⟨b, rfl, hb⟩
  · exact .inl rfl
  · exact .inr ⟨b, rfl, k.heap hb (fun h => h)⟩
theorem no_there (h : Noth w p) (hK : K (.bool false) w) : Ret Tryd.prog dag_Graph_there.id #[.pointer p] w K := by
  rcases h with rfl | ⟨b, rfl, hb⟩
  · exact dag_Graph_there.of (Split.no rfl hK)
  · exact dag_Graph_there.of (Split.yes rfl ⟨none, by rw [add_at, cell_blk hb]; rfl, hK⟩)
theorem no_find (h : Noth w p) (x : HT) (hK : ∀ w', Kept Nil w w' → K (.pointer none) w') : Ret Tryd.prog dag_Graph_find.id #[.pointer p, .agg x.1] w K := by
  refine dag_Graph_find.of ?_
  unfold dag_Graph_find.W
  intro w3
  have k3 : Kept Nil w w3 := (Kept.refl _ _).alloc _
  clear_value w3
  exact no_there (h.same k3) ⟨false, rfl, Split.no rfl (hK w3 k3)⟩
theorem no_Has (h : Noth w p) (x : HT) (hK : ∀ w', Kept Nil w w' → K (.bool false) w') : Ret Tryd.prog dag_Graph_Has.id #[.pointer p, .agg x.1] w K := by
  refine dag_Graph_Has.of ?_
  unfold dag_Graph_Has.W
  intro w3
  have k3 : Kept Nil w w3 := (Kept.refl _ _).alloc _
  have hb3 : w3.heap[w.heap.size]? = some (.cells x.1 T_api_Hash (0, 0)) := new_blk w _
  clear_value w3
  exact ⟨x.1, ⟨x.2.1, Cells.blk hb3⟩, no_find (h.same k3) x fun w6 k6 => ⟨none, rfl, hK w6 (k3.trans k6 (fun _ _ h => h))⟩⟩
theorem no_Len (h : Noth w p) (hK : K (.int .i64 0) w) : Ret Tryd.prog dag_Graph_Len.id #[.pointer p] w K :=
  dag_Graph_Len.of (no_there h ⟨false, rfl, Split.yes rfl hK⟩)
theorem no_Root (h : Noth w p) (hK : ∀ w', Kept Nil w w' → K (.agg hz0.1) w') : Ret Tryd.prog dag_Graph_Root.id #[.pointer p] w K := by
  refine dag_Graph_Root.of ?_
  unfold dag_Graph_Root.W
  intro w2
  have k2 : Kept Nil w w2 := (Kept.refl _ _).alloc _
  have hbox := box_set (w := w) (z := hz0.1) (cs := hz0.1) (t := T_api_Hash) rfl
  refine no_there (h.same k2) ⟨false, rfl, Split.yes rfl ⟨⟨hz0.2.1, hz0.2.one, fun j hj => hbox.1 j (by rw [hz0.2.1]; exact hj)⟩, ?_⟩⟩
  intro w8
  have hb8 : w8.heap[w.heap.size]? = some (.cells hz0.1 T_api_Hash (0, 0)) := hbox.2.1
  have k8 : Kept Nil w w8 := hbox.2.2
  clear_value w8
  exact ⟨hz0.1, ⟨hz0.2.1, Cells.blk hb8⟩, hK w8 k8⟩
theorem no_All (h : Noth w p) (hK : ∀ w' pb, Kept Nil w w' → w'.heap[pb]? = some (.cells #[.slice none 0 0] T_sl_p_dag_node (0, 0)) → w.heap.size ≤ pb → K (.func (.func dag_Graph_All_fn1.id) #[] #[.pointer (some ⟨pb, 0, none⟩)]) w') :
    Ret Tryd.prog dag_Graph_All.id #[.pointer p] w K := by
  refine dag_Graph_All.of ?_
  unfold dag_Graph_All.W
  intro w2
  have k2 : Kept Nil w w2 := (Kept.refl _ _).alloc _
  have hb2 : w2.heap[w.heap.size]? = some (.cells #[.slice none 0 0] T_sl_p_dag_node (0, 0)) := new_blk w _
  clear_value w2
  exact no_there (h.same k2) ⟨false, rfl, Split.no rfl (hK w2 w.heap.size k2 hb2 (Nat.le_refl _))⟩
theorem none_iter (p : Addr) : Iterates Tryd.prog dag_Graph_All_fn1.id #[] #[.pointer (some p)] (([] : List HT).map encH) (fun w => w.cell? p = some (.slice none 0 0)) := by
  intro y I Q w0 hI hQ hpre h0 hround
  refine dag_Graph_All_fn1.of ?_
  have hp0 := hpre 0 w0 h0
  refine ⟨_, _, _, hp0, ?_⟩
  refine dag_Graph_All_fn1.loop1 (I := fun s w' => s = 0 ∧ I 0 w') (μ := fun s _ => 0) (s := 0) ⟨rfl, h0⟩ ?_
  rintro s w' ⟨rfl, hw⟩
  refine Split.no rfl ?_
  rw [roundQ_exit, dag_Graph_All_fn1.x1_0]
  exact Or.inl hw
theorem no_Parents (h : Noth w p) (x : HT) (hK : ∀ w', Kept Nil w w' → K (.tuple #[.slice none 0 0, .int .i64 1]) w') : Ret Tryd.prog dag_Graph_Parents.id #[.pointer p, .agg x.1] w K := by
  refine dag_Graph_Parents.of ?_
  unfold dag_Graph_Parents.W
  intro w3
  have k3 : Kept Nil w w3 := (Kept.refl _ _).alloc _
  have hb3 : w3.heap[w.heap.size]? = some (.cells x.1 T_api_Hash (0, 0)) := new_blk w _
  clear_value w3
  refine ⟨x.1, ⟨x.2.1, Cells.blk hb3⟩, no_find (h.same k3) x fun w6 k6 => ⟨none, rfl, ?_⟩⟩
  have k6' := k3.trans k6 (fun _ _ h => h)
  exact no_there (h.same k6') ⟨false, rfl, Split.yes rfl (hK w6 k6')⟩
theorem no_Children (h : Noth w p) (x : HT) (hK : ∀ w', Kept Nil w w' → K (.tuple #[.slice none 0 0, .int .i64 1]) w') : Ret Tryd.prog dag_Graph_Children.id #[.pointer p, .agg x.1] w K := by
  refine dag_Graph_Children.of ?_
  unfold dag_Graph_Children.W
  intro w3
  have k3 : Kept Nil w w3 := (Kept.refl _ _).alloc _
  have hb3 : w3.heap[w.heap.size]? = some (.cells x.1 T_api_Hash (0, 0)) := new_blk w _
  clear_value w3
  refine ⟨x.1, ⟨x.2.1, Cells.blk hb3⟩, no_find (h.same k3) x fun w6 k6 => ⟨none, rfl, ?_⟩⟩
  have k6' := k3.trans k6 (fun _ _ h => h)
  exact no_there (h.same k6') ⟨false, rfl, Split.yes rfl (hK w6 k6')⟩
theorem no_Tips (h : Noth w p) (hK : ∀ A c w', Kept Nil w w' → K (.slice A 0 c) w') : Ret Tryd.prog dag_Graph_Tips.id #[.pointer p] w K := by
  refine dag_Graph_Tips.of (dag_Graph_pick__dag_Graph_Tips_fn1.of (no_there h ⟨false, rfl, Split.no rfl ?_⟩))
  exact dag_Sorted_ok (HS.nil w none) (by omega) fun A c w8 _ k8 => ⟨A, 0, c, rfl, A, 0, c, rfl, hK A c w8 k8⟩
theorem no_Before (h : Noth w p) (x y : HT) (hK : ∀ w', Kept Nil w w' → K (.bool false) w') : Ret Tryd.prog dag_Graph_Before.id #[.pointer p, .agg x.1, .agg y.1] w K := by
  refine dag_Graph_Before.of ?_
  unfold dag_Graph_Before.W
  intro w4 w5 w6
  have k4 : Kept Nil w w4 := (Kept.refl _ _).alloc _
  have hb4 : w4.heap[w.heap.size]? = some (.cells x.1 T_api_Hash (0, 0)) := new_blk w _
  have k5 : Kept Nil w4 w5 := (Kept.refl _ _).alloc _
  have hb5 : w5.heap[w4.heap.size]? = some (.cells y.1 T_api_Hash (0, 0)) := new_blk w4 _
  have k6 : Kept Nil w5 w6 := (Kept.refl _ _).drew
  clear_value w6
  have k06 := (k4.trans k5 (fun _ _ h => h)).trans k6 (fun _ _ h => h)
  have hb46 := (k5.trans k6 (fun _ _ h => h)).heap hb4 (fun h => h)
  have hb56 := k6.heap hb5 (fun h => h)
  refine ⟨x.1, ⟨x.2.1, Cells.blk hb46⟩, y.1, ⟨y.2.1, Cells.blk hb56⟩, ?_⟩
  refine no_find (h.same k06) x fun w10 k10 => ⟨none, rfl, ⟨y.1, rfl, y.2.1, Cells.blk (k10.heap hb56 (fun h => h))⟩, ?_⟩
  have k010 := k06.trans k10 (fun _ _ h => h)
  refine no_find (h.same k010) y fun w13 k13 => ⟨none, rfl, ?_⟩
  have k013 := k010.trans k13 (fun _ _ h => h)
  intro w15
  have k15 : Kept Nil w13 w15 := (Kept.refl _ _).drew
  clear_value w15
  exact Split.no rfl (hK w15 (k013.trans k15 (fun _ _ h => h)))
theorem no_Future (h : Noth w p) (x : HT) (hK : ∀ w', Kept Nil w w' → K (.slice none 0 0) w') : Ret Tryd.prog dag_Graph_Future.id #[.pointer p, .agg x.1] w K := by
  refine dag_Graph_Future.of ?_
  unfold dag_Graph_Future.W
  intro w3
  have k3 : Kept Nil w w3 := (Kept.refl _ _).alloc _
  have hb3 : w3.heap[w.heap.size]? = some (.cells x.1 T_api_Hash (0, 0)) := new_blk w _
  clear_value w3
  exact ⟨x.1, ⟨x.2.1, Cells.blk hb3⟩, no_Has (h.same k3) x fun w6 k6 => ⟨false, rfl, Split.yes rfl (hK w6 (k3.trans k6 (fun _ _ h => h)))⟩⟩
theorem no_Anticone (h : Noth w p) (x : HT) (hK : ∀ w', Kept Nil w w' → K (.slice none 0 0) w') : Ret Tryd.prog dag_Graph_Anticone.id #[.pointer p, .agg x.1] w K := by
  refine dag_Graph_Anticone.of ?_
  unfold dag_Graph_Anticone.W
  intro w3
  have k3 : Kept Nil w w3 := (Kept.refl _ _).alloc _
  have hb3 : w3.heap[w.heap.size]? = some (.cells x.1 T_api_Hash (0, 0)) := new_blk w _
  clear_value w3
  refine ⟨x.1, ⟨x.2.1, Cells.blk hb3⟩, no_find (h.same k3) x fun w6 k6 => ⟨none, rfl, ?_⟩⟩
  have k06 := k3.trans k6 (fun _ _ h => h)
  intro w8
  have k8 : Kept Nil w6 w8 := (Kept.refl _ _).alloc _
  have hb8 : w8.heap[w6.heap.size]? = some (.cells #[.pointer none] T_p_dag_node (0, 0)) := new_blk w6 _
  clear_value w8
  refine ⟨wr_blk hb8 (by simp), ?_⟩
  intro w9
  have k9 : Kept (· = w6.heap.size) w8 w9 := Kept.setCell (S := fun k => k = w6.heap.size) (Kept.refl _ w8) (p := ⟨w6.heap.size, 0, none⟩) (fun _ => rfl) _
  have hb9 : w9.heap[w6.heap.size]? = some (.cells #[.pointer none] T_p_dag_node (0, 0)) := set_blk hb8 0 _
  clear_value w9
  have s6 := k06.size
  have k09 := (k06.trans k8 (fun _ _ h => h)).trans k9 (fun k hk e => by omega)
  exact ⟨none, by rw [cell_blk hb9]; rfl, Split.yes rfl (hK w9 k09)⟩
theorem no_Copy (h : Noth w p) (hK : K (.pointer none) w) : Ret Tryd.prog dag_Graph_Copy.id #[.pointer p] w K :=
  dag_Graph_Copy.of (no_there h ⟨false, rfl, Split.yes rfl hK⟩)
theorem no_Add (h : Noth w p) (x : HT) {A : Option Addr} {n c : Nat} {l : List HT} (hl : HS w A n l) (hn : n ≤ 10000) (hK : ∀ w', Kept Nil w w' → K (.int .i64 1) w') : Ret Tryd.prog dag_Graph_Add.id #[.pointer p, .agg x.1, .slice A n c] w K := by
  refine dag_Graph_Add.of ?_
  unfold dag_Graph_Add.W
  intro w4 w5
  have k4 : Kept Nil w w4 := (Kept.refl _ _).alloc _
  have hb4 : w4.heap[w.heap.size]? = some (.cells #[.pointer p] T_p_dag_Graph (0, 0)) := new_blk w _
  have k5 : Kept Nil w4 w5 := (Kept.refl _ _).alloc _
  clear_value w5
  have k05 := k4.trans k5 (fun _ _ h => h)
  refine dag_Sorted_ok (hl.same k05) (by omega) fun A7 c7 w7 _ k7 => ⟨A7, _, c7, rfl, p, by rw [cell_blk ((k5.trans k7 (fun _ _ h => h)).heap hb4 (fun h => h))]; rfl, ?_⟩
  have k07 := k05.trans k7 (fun _ _ h => h)
  exact no_there (h.same k07) ⟨false, rfl, Split.yes rfl (hK w7 k07)⟩
theorem no_Past (h : Noth w p) (hT : Tab w) {A : Option Addr} {n cx : Nat} {l : List HT} (hl : HS w A n l) (hn : n ≤ 10000) (hK : ∀ A' c' w', Kept Nil w w' → K (.slice A' 0 c') w') :
    Ret Tryd.prog dag_Graph_Past.id #[.pointer p, .slice A n cx] w K := by
  have hlen := hl.len
  refine dag_Graph_Past.of ?_
  unfold dag_Graph_Past.W
  intro w3
  have k3 : Kept Nil w w3 := (Kept.refl _ _).alloc _
  have hg3 : w3.heap[w.heap.size]? = some (.cells #[.pointer p] T_p_dag_Graph (0, 0)) := new_blk w _
  have hs3 : w.heap.size < w3.heap.size := lt_blk hg3
  clear_value w3
  refine dag_Graph_Past.loop1 (I := fun s w' => ∃ i : Nat, s = (none, 0, 0, (i : Int)) ∧ i ≤ n ∧ Kept Nil w3 w') (μ := fun s _ => ((n : Int) - s.2.2.2).toNat) (s := (none, 0, 0, 0)) ⟨0, rfl, Nat.zero_le _, Kept.refl _ _⟩ ?_
  rintro s w' ⟨i, rfl, hi, kw⟩
  have kk : Kept Nil w w' := k3.trans kw (fun _ _ h => h)
  refine Split.dec (fun hil0 => ?_) (fun hge => ?_)
  · simp only at hil0
    have hil : i < n := by omega
    obtain ⟨x, hh⟩ : ∃ h, l[i]? = some h := ⟨_, List.getElem?_eq_getElem (by omega)⟩
    refine (hl.same kk).load (i := (i : Int)) (by omega) hh ?_
    intro w12
    obtain ⟨hwr, hbx, hkx⟩ := box_set (w := w') (z := (#[.int .u8 0, .int .u8 0, .int .u8 0, .int .u8 0, .int .u8 0, .int .u8 0, .int .u8 0, .int .u8 0, .int .u8 0, .int .u8 0, .int .u8 0, .int .u8 0, .int .u8 0, .int .u8 0, .int .u8 0, .int .u8 0, .int .u8 0, .int .u8 0, .int .u8 0, .int .u8 0, .int .u8 0, .int .u8 0, .int .u8 0, .int .u8 0, .int .u8 0, .int .u8 0, .int .u8 0, .int .u8 0, .int .u8 0, .int .u8 0, .int .u8 0, .int .u8 0] : Array Value)) (cs := x.1) (t := T_api_Hash) (by rw [x.2.1]; rfl)
    refine ⟨⟨x.2.1, x.2.one, fun j hj => hwr j (by rw [x.2.1]; exact hj)⟩, ?_⟩
    intro w15
    replace hbx : w15.heap[w'.heap.size]? = some (.cells x.1 T_api_Hash (0, 0)) := hbx
    replace hkx : Kept Nil w' w15 := hkx
    clear_value w15
    have k15 : Kept Nil w3 w15 := kw.trans hkx (fun _ _ h => h)
    refine ⟨p, by rw [cell_blk (k15.heap hg3 (fun h => h))]; rfl, x.1, ⟨x.2.1, Cells.blk hbx⟩, ?_⟩
    refine no_find (h.same (k3.trans k15 (fun _ _ h => h))) x fun w19 k19 => ⟨none, rfl, ?_⟩
    refine Split.no rfl ?_
    simp only
    rw [wrapP (n := (i : Int)) (by omega) (by omega)]
    exact ⟨(none, 0, 0, (i : Int) + 1), rfl, ⟨i + 1, rfl, hil, k15.trans k19 (fun _ _ h => h)⟩, by simp only; omega⟩
  · rw [roundQ_exit, dag_Graph_Past.x1_0]
    unfold dag_Graph_Past.X1_0
    intro w32
    have k32 : Kept Nil w' w32 := (Kept.refl _ _).alloc _
    have ho32 : w32.heap[w'.heap.size]? = some (.cells #[.slice none 0 0] T_sl_api_Hash (0, 0)) := new_blk w' _
    clear_value w32
    refine dag_row_all.of ?_
    unfold dag_row_all.W
    intro w34
    have k34 : Kept Nil w32 w34 := (Kept.refl _ _).alloc _
    have hr34 : w34.heap[w32.heap.size]? = some (.cells #[.slice none 0 0] T_dag_row (0, 0)) := new_blk w32 _
    clear_value w34
    refine ⟨_, rfl, ?_⟩
    have ho34 := k34.heap ho32 (fun h => h)
    have k334 : Kept Nil w3 w34 := (kw.trans k32 (fun _ _ h => h)).trans k34 (fun _ _ h => h)
    have kw34 : Kept Nil w w34 := k3.trans k334 (fun _ _ h => h)
    let ρ0 : Env := [(2, .pointer (some (⟨w.heap.size, 0, none⟩ : Addr))), (4, .slice none 0 0), (9, .pointer (some (⟨w'.heap.size, 0, none⟩ : Addr))), (30, .func (.func dag_row_all_fn1.id) #[] #[.pointer (some (⟨w32.heap.size, 0, none⟩ : Addr))])]
    let J : Nat → World → Prop := fun i v => Kept Nil w34 v
    have hpre : ∀ i v, J i v → US v none 0 [] ∧ v.cell? ⟨w32.heap.size, 0, none⟩ = some (.slice none 0 0) ∧ Tab v := fun i v hJ =>
      ⟨⟨rfl, fun i h hi => by simp at hi⟩, by rw [cell_blk (hJ.heap hr34 (fun h => h))]; rfl, hT.same (kw34.trans hJ (fun _ _ h => h))⟩
    refine range_iter (ρ := ρ0) (ρ0 := ρ0) ng mix dag_Graph_Past.k (t := 30) (ps := #[31]) (by kernel_rfl) (by decide) rfl dag_row_all_fn1.at_ rfl (.inl rfl) (fun i v _ h => h) rfl encI [] (fun _ => rfl) (by simp [dkey]) (all_iter ⟨w32.heap.size, 0, none⟩ (c := 0) (l := []) (by omega) (by simp [okW])) J (fun _ _ => False) ?_ (fun _ _ _ _ _ h => h.elim) hpre ?_ ?_ ?_ (fun _ _ h => h.elim) (fun _ _ _ h => h.elim)
    · exact fun i v v' R hlv hJ hk => hJ.trans hk (fun k hk e => by omega)
    · exact fun R => (((Kept.refl _ _).alloc _).alloc _)
    · exact fun i x v R hx => by simp at hx
    · intro v R hJ hlv
      have e7 : addMark ρ0 w34.heap.size = [(2, .pointer (some (⟨w.heap.size, 0, none⟩ : Addr))), (4, .slice none 0 0), (9, .pointer (some (⟨w'.heap.size, 0, none⟩ : Addr))), (30, .func (.func dag_row_all_fn1.id) #[] #[.pointer (some (⟨w32.heap.size, 0, none⟩ : Addr))]), (4294967296, .agg #[.pointer (some ⟨w34.heap.size, 0, none⟩)])] := rfl
      rw [e7, dag_Graph_Past.z1_normal]
      have ho := hJ.heap ho34 (fun h => h)
      refine ⟨none, 0, 0, by rw [cell_blk ho]; rfl, dag_Sorted_ok (HS.nil v none) (by omega) fun A2 c2 w59 row59 k59 => ⟨A2, 0, c2, rfl, ⟨k59.heap hlv.mark (fun h => h), trivial⟩, ?_⟩⟩
      have kp : Kept (· = w34.heap.size) w59 (w59.putObj w34.heap.size (.deferred none)) := Kept.putAt _ _ _
      have s34 := kw34.size
      exact hK A2 c2 _ (((kw34.trans hJ (fun _ _ h => h)).trans k59 (fun _ _ h => h)).trans kp (fun k hk e => by omega))
end
end Go.Proofs.YtljckpecmlnbiaaDoor
/-
  The walk of DagNil.
-/
namespace Go.Proofs.YtljckpecmlnbiaaDoor
open Go Go.Lite Go.RowKit

section
variable {w w' : World} {K : Value → World → Prop}
theorem nil_ok (hT : Tab w) (hK : ∀ w', Kept Nil w w' → K (.bool true) w') : Ret Tryd.prog law10_DagNil.id #[] w K := by
  refine law10_DagNil.of ?_
  unfold law10_DagNil.W
  intro w1 w2 w3
  have k1 : Kept Nil w w1 := (Kept.refl _ _).alloc _
  have hr1 : w1.heap[w.heap.size]? = some (.cells #[.bool false] T_bool (0, 0)) := new_blk w _
  have k2 : Kept Nil w1 w2 := (Kept.refl _ _).alloc _
  have hz2 : w2.heap[w1.heap.size]? = some (.cells #[.slice none 0 0, .map none] T_dag_Graph (0, 0)) := new_blk w1 _
  have k3 : Kept Nil w2 w3 := (Kept.refl _ _).alloc _
  have hl3 : w3.heap[w2.heap.size]? = some (.cells #[.pointer none, .pointer (some ⟨w1.heap.size, 0, none⟩)] T_p_dag_Graph (0, 0)) := new_blk w2 _
  clear_value w3
  have hr3 := k3.heap (k2.heap hr1 (fun h => h)) (fun h => h)
  have hz3 := k3.heap hz2 (fun h => h)
  have k03 := (k1.trans k2 (fun _ _ h => h)).trans k3 (fun _ _ h => h)
  have s1 := lt_blk hr1
  have s2 := lt_blk hz2
  have s3 := lt_blk hl3
  refine Holds.mark0 rfl ?_
  refine law10_DagNil.loop1 (I := fun s v => ∃ (t : Nat) (Ms : List Nat), s = ((t : Int), marksA Ms) ∧ t ≤ 2 ∧ Kept Nil w3 v ∧ Ms.Nodup ∧ ∀ E ∈ Ms, w3.heap.size ≤ E ∧ v.heap[E]? = some (.deferred (some []))) (μ := fun s _ => (2 - s.1).toNat) (s := (0, #[])) ⟨0, [], rfl, by omega, Kept.refl _ _, List.Pairwise.nil, by simp⟩ ?_
  rintro s v ⟨t, Ms, rfl, ht, kv, hnd, hMs⟩
  have k0v : Kept Nil w v := k03.trans kv (fun _ _ h => h)
  have hrv := kv.heap hr3 (fun h => h)
  have hzv := kv.heap hz3 (fun h => h)
  have hlv := kv.heap hl3 (fun h => h)
  have sv := kv.size
  refine Split.dec (fun hil0 => ?_) (fun hge => ?_)
  · simp only at hil0
    have hil : t < 2 := by omega
    obtain ⟨p, hp, hno⟩ : ∃ p, v.cell? ((⟨w2.heap.size, 0, none⟩ : Addr).add ((t : Int).toNat * 1)) = some (.pointer p) ∧ Noth v p := by
      have h2 : t = 0 ∨ t = 1 := by omega
      rcases h2 with rfl | rfl
      · exact ⟨none, by rw [add_at, cell_blk hlv]; rfl, .inl rfl⟩
      · exact ⟨some ⟨w1.heap.size, 0, none⟩, by rw [add_at, cell_blk hlv]; rfl, .inr ⟨_, rfl, hzv⟩⟩
    refine ⟨⟨by omega, by simp only; omega⟩, p, hp, ?_⟩
    refine no_All hno fun w11 pb k11 hpb11 _ => ⟨.func (.func dag_Graph_All_fn1.id) #[] #[.pointer (some ⟨pb, 0, none⟩)], rfl, .inr ⟨_, _, _, rfl⟩, Split.no rfl ?_⟩
    let ρ0 : Env := [(0, .pointer (some (⟨w.heap.size, 0, none⟩ : Addr))), (2, .slice (some (⟨w2.heap.size, 0, none⟩ : Addr)) 2 2), (3, .int .i64 (t : Int)), (4, .pointer p), (25, .func (.func dag_Graph_All_fn1.id) #[] #[.pointer (some ⟨pb, 0, none⟩)])]
    let J : Nat → World → Prop := fun i u => Kept Nil w11 u
    change Holds none [] Tryd.prog _ _ _ (ρ0 ++ [(dkey, .agg (marksA Ms))]) w11
    refine range_iter (n := 109) (ρ := ρ0 ++ [(dkey, .agg (marksA Ms))]) (ρ0 := ρ0) ng mix law10_DagNil.k (t := 25) (ps := #[26]) (by kernel_rfl) (by decide) rfl dag_Graph_All_fn1.at_ rfl (.inr ⟨_, rfl⟩) (fun i x hi hx => (find_snoc (ρ := ρ0) (.agg (marksA Ms)) hi).trans hx) rfl encH [] (fun _ => rfl) (fun q hq => by
        have e26 : q = 26 := by simpa using hq
        subst e26
        exact ⟨by decide, by decide⟩)
      (Pre := fun u => u.cell? ⟨pb, 0, none⟩ = some (.slice none 0 0)) (none_iter ⟨pb, 0, none⟩) J (fun _ _ => False) ?_ (fun _ _ _ _ _ h => h.elim) (fun i u hJ => by rw [cell_blk (Kept.heap hJ hpb11 (fun h => h))]; rfl) ?_ ?_ ?_ (fun _ _ h => h.elim) (fun _ _ _ h => h.elim)
    · exact fun i u u' R _ hJ hk => Kept.trans hJ hk (fun k hk e => by omega)
    · exact fun R => (((Kept.refl _ _).alloc _).alloc _)
    · exact fun i x u R hx => by simp at hx
    · intro u R hJ hlive
      have e7 : addMark (ρ0 ++ [(dkey, .agg (marksA Ms))]) w11.heap.size = [(0, .pointer (some (⟨w.heap.size, 0, none⟩ : Addr))), (2, .slice (some (⟨w2.heap.size, 0, none⟩ : Addr)) 2 2), (3, .int .i64 (t : Int)), (4, .pointer p), (25, .func (.func dag_Graph_All_fn1.id) #[] #[.pointer (some ⟨pb, 0, none⟩)]), (4294967296, .agg (marksA (w11.heap.size :: Ms)))] := rfl
      rw [e7, law10_DagNil.z1_normal _ _ _ _ _ _ _ #[]]
      have ku : Kept Nil v u := k11.trans hJ (fun _ _ h => h)
      have s11 := k11.size
      have hmk : u.heap[w11.heap.size]? = some (.deferred (some [])) := hlive.mark
      have hN : ∀ {y : World}, Kept Nil u y → Noth y p := fun k => hno.same (ku.trans k (fun _ _ h => h))
      clear ρ0 J hJ hlive e7
      unfold law10_DagNil.Z1_normal
      refine no_Parents (hN (Kept.refl _ _)) hz0 fun w36 k36 => ⟨none, 0, 0, 1, rfl, ?_⟩
      refine no_Children (hN k36) hz0 fun w40 k40 => ⟨none, 0, 0, 1, rfl, rfl, ?_⟩
      intro w43
      have k43 : Kept Nil w40 w43 := (Kept.refl _ _).alloc _
      have hb43 : w43.heap[w40.heap.size]? = some (.cells hz0.1 T_api_Hash (0, 0)) := new_blk w40 _
      clear_value w43
      have kk43 := (k36.trans k40 (fun _ _ h => h)).trans k43 (fun _ _ h => h)
      refine no_Add (hN kk43) hone (HS.one hb43) (by omega) fun w45 k45 => ⟨1, rfl, Split.no rfl ?_⟩
      have kk45 := kk43.trans k45 (fun _ _ h => h)
      refine no_Has (hN kk45) hz0 fun w49 k49 => ⟨false, rfl, Split.no rfl ?_⟩
      have kk49 := kk45.trans k49 (fun _ _ h => h)
      refine no_Root (hN kk49) fun w53 k53 => ⟨hz0.1, rfl, ⟨hz0.2.ints, hz0.2.ints⟩, Split.no (show (!(sameInts hz0.1 hz0.1)) = false by rw [sameInts_eq, decide_eq_true rfl]; rfl) ?_⟩
      have kk53 := kk49.trans k53 (fun _ _ h => h)
      refine no_Len (hN kk53) ⟨0, rfl, Split.no rfl (Split.no rfl (Split.no rfl ?_))⟩
      refine no_Tips (hN kk53) fun A63 c63 w63 k63 => ⟨A63, 0, c63, rfl, Split.no rfl ?_⟩
      have kk63 := kk53.trans k63 (fun _ _ h => h)
      refine no_Before (hN kk63) hz0 hz0 fun w67 k67 => ⟨false, rfl, Split.no rfl ⟨rfl, ?_⟩⟩
      have kk67 := kk63.trans k67 (fun _ _ h => h)
      intro w70
      have k70 : Kept Nil w67 w70 := (Kept.refl _ _).alloc _
      have hb70 : w70.heap[w67.heap.size]? = some (.cells hz0.1 T_api_Hash (0, 0)) := new_blk w67 _
      clear_value w70
      have kk70 := kk67.trans k70 (fun _ _ h => h)
      refine no_Past (hN kk70) (hT.same ((k0v.trans ku (fun _ _ h => h)).trans kk70 (fun _ _ h => h))) (HS.one hb70) (by omega) fun A72 c72 w72 k72 => ⟨A72, 0, c72, rfl, Split.no rfl ?_⟩
      have kk72 := kk70.trans k72 (fun _ _ h => h)
      refine no_Future (hN kk72) hz0 fun w76 k76 => ⟨none, 0, 0, rfl, Split.no rfl ?_⟩
      have kk76 := kk72.trans k76 (fun _ _ h => h)
      refine no_Anticone (hN kk76) hz0 fun w80 k80 => ⟨none, 0, 0, rfl, Split.no rfl ?_⟩
      have kk80 := kk76.trans k80 (fun _ _ h => h)
      refine no_Copy (hN kk80) ⟨none, rfl, Split.no rfl ?_⟩
      rw [wrapP (n := (t : Int)) (by omega) (by omega)]
      have kv80 := ku.trans kk80 (fun _ _ h => h)
      refine ⟨((t : Int) + 1, marksA (w11.heap.size :: Ms)), rfl, ⟨t + 1, w11.heap.size :: Ms, rfl, by omega, kv.trans kv80 (fun _ _ h => h), ?_, fun E hE => ?_⟩, by simp only; omega⟩
      · rw [List.nodup_cons]
        refine ⟨fun hE => ?_, hnd⟩
        have := lt_blk (hMs _ hE).2
        omega
      · rcases List.mem_cons.1 hE with rfl | hE
        · exact ⟨by omega, kk80.heap hmk (fun h => h)⟩
        · exact ⟨(hMs E hE).1, kv80.heap (hMs E hE).2 (fun h => h)⟩
  · simp only at hge
    rw [roundQ_exit, law10_DagNil.x1_0]
    unfold law10_DagNil.X1_0
    refine known_ok fun w19 k19 => ⟨true, rfl, ?_⟩
    have hr19 := k19.heap hrv (fun h => h)
    have k019 := k0v.trans k19 (fun _ _ h => h)
    refine ⟨wr_blk hr19 (by simp), ?_⟩
    intro w21
    have k21 : Kept (· = w.heap.size) w19 w21 := Kept.setCell (S := fun k => k = w.heap.size) (Kept.refl _ w19) (p := ⟨w.heap.size, 0, none⟩) (fun _ => rfl) _
    have hr21 : w21.heap[w.heap.size]? = some (.cells #[.bool true] T_bool (0, 0)) := set_blk hr19 0 _
    clear_value w21
    rw [marksOf_A]
    have hm21 : ∀ E ∈ Ms, w21.heap[E]? = some (.deferred (some [])) := fun E hE => k21.heap (k19.heap (hMs E hE).2 (fun h => h)) (by have := (hMs E hE).1; omega)
    have kt := takeAll_kept Ms w21
    have hrt := kt.heap hr21 (fun hE => by have := (hMs _ hE).1; omega)
    refine ⟨marksOk_of Ms w21 hnd hm21, true, by rw [cell_blk hrt]; rfl, hK _ ?_⟩
    exact (k019.trans k21 (fun k hk e => by omega)).trans kt (fun k hk hE => by have := (hMs k hE).1; omega)
end
end Go.Proofs.YtljckpecmlnbiaaDoor
