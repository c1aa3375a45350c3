/-
  The document's index: New, Add, Up, Chain.
-/
import Derived.Test.YtgfkpemnkmebkaaGreatDoorMI
import Derived.Test.YtgfkpemnkmebkaaGreatDoorMG
import Derived.Test.YtgfkpemnkmebkaaGreatDoorMF
set_option linter.unusedVariables false
namespace Go.Proofs.YtgfkpemnkmebkaaGreatDoor
open Go Go.Lite Go.RowKit

/-- the selected ones, in a row -/
def SelL (D : DG) (P : List Int) (l : List HT) : Prop := l.length = D.length ∧ ∀ (i j : Nat) (m : DN), P[i]? = some (j : Int) → D[j]? = some m → l[i]? = some m.id
structure IsR2 (w : World) (F : Nat → Prop) (r : Nat) (D : DG) (P : List Int) : Prop where
  ex : ∃ (A : Option Addr) (c : Nat) (B : Option Addr) (e : Nat) (l : List HT), w.heap[r]? = some (.cells #[.slice A D.length c, .slice B D.length e] T_plexusref12_Index (0, 0)) ∧ NS w F A D.length D ∧ HS w B D.length l ∧ (∀ a, B = some a → F a.block) ∧ SelL D P l
  far : ¬ F r
  sel : Sel D P
  W : WfD D
section
variable {w w' : World} {F F' S : Nat → Prop} {r : Nat} {D : DG} {P : List Int} {K : Value → World → Prop}
theorem IsR2.keep (h : IsR2 w F r D P) (hk : Kept S w w') (hr : ¬ S r) (hn : ∀ k, F k → ¬ S k) : IsR2 w' F r D P := by
  obtain ⟨A, c, B, e, l, h1, h2, h3, h4, h5⟩ := h.ex
  exact ⟨⟨A, c, B, e, l, hk.heap h1 hr, h2.keep hk hn, h3.keep hk (fun a ha => hn _ (h4 a ha)), h4, h5⟩, h.far, h.sel, h.W⟩
theorem IsR2.same (h : IsR2 w F r D P) (hk : Kept Nil w w') : IsR2 w' F r D P := h.keep hk (fun h => h) (fun _ _ h => h)
theorem IsR2.lt (h : IsR2 w F r D P) : r < w.heap.size := by obtain ⟨A, c, B, e, l, h1, _⟩ := h.ex; exact lt_blk h1
theorem IsR2.mono (h : IsR2 w F r D P) (hf : ∀ k, F k → F' k) (hr : ¬ F' r) : IsR2 w F' r D P := by
  obtain ⟨A, c, B, e, l, h1, h2, h3, h4, h5⟩ := h.ex
  exact ⟨⟨A, c, B, e, l, h1, h2.mono hf, h3, fun a ha => hf _ (h4 a ha), h5⟩, hr, h.sel, h.W⟩
theorem IsR2.gr (h : IsR2 w F r D P) : IsR w F r D := by
  obtain ⟨A, c, B, e, l, h1, h2, _⟩ := h.ex
  exact ⟨⟨A, c, _, _, h1, rfl, h2⟩, h.far⟩
theorem atI_at (W : WfD D) {j : Nat} {nd : DN} (h : D[j]? = some nd) : atI D nd.id = (j : Int) := by unfold atI; rw [W.pos_eq h]
/-- Up -/
theorem ref12_Up (H : IsR2 w F r D P) (hD : D.length ≤ 10000) (h : HT) (hK : ∀ A c w' l, ChainL D P h l → HRow w' w.heap.size A l.length c l → Kept Nil w w' → K (.slice A l.length c) w') :
    Ret Tryz.prog ref12_Index_Up.id #[.pointer (some ⟨r, 0, none⟩), .agg h.1] w K := by
  have W := H.W
  have hpar := H.sel.par
  refine ref12_Index_Up.of ?_
  unfold ref12_Index_Up.W
  intro w3 w4
  have k3 : Kept Nil w w3 := (Kept.refl _ _).alloc _
  have hb3 : w3.heap[w.heap.size]? = some (.cells h.1 T_api_Hash (0, 0)) := new_blk w _
  have k4 : Kept Nil w3 w4 := (Kept.refl _ _).drew
  clear_value w4
  have hb4 := k4.heap hb3 (fun h => h)
  have k04 := k3.trans k4 (fun _ _ h => h)
  refine ⟨h.1, ⟨h.2.1, Cells.blk hb4⟩, ?_⟩
  rw [add_zero]
  refine ref_At (H.gr.same k04) (by omega) h fun w8 k8 => ⟨_, rfl, ?_⟩
  have k08 := k04.trans k8 (fun _ _ h => h)
  have hb8 := k8.heap hb4 (fun h => h)
  have s08 := k08.size
  have l08 := lt_blk hb8
  by_cases hm : ¬ h ∈ ids D
  · have hneg := atI_neg.2 hm
    refine ref12_Index_Up.loop1 (I := fun s v => s = (none, 0, 0, atI D h) ∧ v = w8) (μ := fun _ _ => 0) (s := (none, 0, 0, atI D h)) ⟨rfl, rfl⟩ ?_
    rintro s v ⟨rfl, rfl⟩
    refine Split.no (decide_eq_false (by simp only; omega)) ?_
    simp only
    rw [roundQ_exit, ref12_Index_Up.x1_0]
    exact hK none 0 v [] (.inl ⟨hm, rfl⟩) (HRow.nil _ _) k08
  replace hm := Classical.not_not.1 hm
  obtain ⟨nd, hnd, hid⟩ := ids_mem.1 hm
  obtain ⟨i, hi⟩ := List.mem_iff_getElem?.1 hnd
  have hil := (List.getElem?_eq_some_iff.1 hi).1
  obtain ⟨ks, hks⟩ := Up.ex hpar i (by rw [H.sel.len]; exact hil)
  have hkl := hks.len hpar
  refine ref12_Index_Up.loop1 (I := fun s v => ∃ (k : Nat) (nk : DN) (dn rs : List Nat) (A : Option Addr) (c : Nat), s = (A, dn.length, c, (k : Int)) ∧ ks = dn ++ rs ∧ Up P k rs ∧ D[k]? = some nk ∧ v.heap[w.heap.size]? = some (.cells nk.id.1 T_api_Hash (0, 0)) ∧ HRow v w8.heap.size A dn.length c (dn.map (idAt D)) ∧ Kept (· = w.heap.size) w8 v)
    (μ := fun s _ => s.2.2.2.toNat) (s := (none, 0, 0, atI D h)) ⟨i, nd, [], ks, none, 0, by rw [← hid, atI_at W hi]; rfl, rfl, hks, hi, by rw [hid]; exact hb8, HRow.nil _ _, Kept.refl _ _⟩ ?_
  rintro s v ⟨k, nk, dn, rs, A, c, rfl, hsp, hur, hnk, hbv, row, kv⟩
  have hklt := (List.getElem?_eq_some_iff.1 hnk).1
  have k0v : Kept Nil w v := k08.trans kv (fun q hq e => by omega)
  have sv := kv.size
  refine Split.yes (decide_eq_true (by simp only; omega)) ⟨nk.id.1, ⟨nk.id.2.1, Cells.blk hbv⟩, nk.id.2.1, ?_⟩
  intro w16
  have k16 : Kept Nil v w16 := (Kept.refl _ _).alloc _
  have hb16 : HS w16 (some ⟨v.heap.size, 0, none⟩) 1 [nk.id] := hbox v nk.id
  clear_value w16
  have hdl : dn.length ≤ ks.length := by rw [hsp]; simp
  have s16 := k16.size
  obtain ⟨A2, c2, w18, hr18, row18, hg18, _⟩ := append_hs (cx := 1) T_sl_api_Hash (Row.keep row k16 (fun _ _ h => h)) hb16 (by omega) (by omega)
  have k18 : Kept (· = w.heap.size) w8 w18 := (kv.trans k16 (fun _ _ h => h.elim)).grown hg18 (fun q hq hlt => by have := (Row.blk row hq).1; omega)
  have k018 : Kept Nil w w18 := k08.trans k18 (fun q hq e => by omega)
  have hrowid : dn.map (idAt D) ++ [nk.id] = (dn ++ [k]).map (idAt D) := by simp [idAt_get hnk]
  rw [hrowid] at row18
  have hb18 : w18.heap[w.heap.size]? = some (.cells nk.id.1 T_api_Hash (0, 0)) := by
    have hkg : Kept (fun q => blkOf A = some q) w16 w18 := Kept.grown (Kept.refl _ _) hg18 (fun q hq _ => hq)
    exact hkg.heap (k16.heap hbv (fun h => h)) (fun e => by have := (Row.blk row e).1; omega)
  refine ⟨A2, _, c2, w18, hr18, ?_⟩
  cases hur with
  | root =>
    refine Split.yes rfl ?_
    simp only
    rw [roundQ_exit, ref12_Index_Up.x1_0]
    have e : (ks.map (idAt D)).length = dn.length + 1 := by rw [hsp]; simp
    have := hK A2 c2 w18 (ks.map (idAt D)) (.inr ⟨i, nd, ks, hi, hid, hks, rfl⟩) (by rw [e, hsp]; exact Row.base row18 (fun b hb => Nat.le_trans s08 (Row.blk row18 hb).1)) k018
    rwa [e] at this
  | @step _ j rs' hj hu' =>
    have hjk := (Tr.kids_lt hpar (Tr.mem_kids.2 hj)).1
    refine Split.no (by simp only [beq_eq_false_iff_ne, ne_eq]; omega) ?_
    obtain ⟨A0, c0, B, e, l, h1, h2, h3, h4, h5⟩ := (H.same k018).ex
    obtain ⟨nj, hnj⟩ : ∃ nj, D[j]? = some nj := ⟨_, List.getElem?_eq_getElem (by omega)⟩
    refine ⟨B, D.length, e, by rw [add_at, cell_blk h1]; rfl, ?_⟩
    refine h3.load (i := (k : Int)) (by omega) (by rw [Int.toNat_natCast]; exact h5.2 k j nj hj hnj) ?_
    obtain ⟨g1, g2, g3⟩ := set_box hb18 (cs := nj.id.1) (by rw [nj.id.2.1, nk.id.2.1])
    refine ⟨⟨nj.id.2.1, nj.id.2.one, fun q hq => g1 q (by rw [nj.id.2.1]; exact hq)⟩, ?_⟩
    intro w25 w26
    replace g2 : w25.heap[w.heap.size]? = some (.cells nj.id.1 T_api_Hash (0, 0)) := g2
    replace g3 : Kept (· = w.heap.size) w18 w25 := g3
    have k26 : Kept Nil w25 w26 := (Kept.refl _ _).drew
    clear_value w26 w25
    have g2' := k26.heap g2 (fun h => h)
    have k826 : Kept (· = w.heap.size) w8 w26 := (k18.trans g3 (fun _ _ h => h)).trans k26 (fun _ _ h => h.elim)
    have k026 : Kept Nil w w26 := k08.trans k826 (fun q hq e => by omega)
    refine ⟨nj.id.1, ⟨nj.id.2.1, Cells.blk g2'⟩, ?_⟩
    rw [add_zero]
    refine ref_At (H.gr.same k026) (by omega) nj.id fun w30 k30 => ⟨_, rfl, ?_⟩
    rw [atI_at W hnj]
    refine ⟨(A2, dn.length + 1, c2, (j : Int)), rfl, ⟨j, nj, dn ++ [k], rs', A2, c2, by simp, by rw [hsp]; simp, hu', hnj, k30.heap g2' (fun h => h), ?_, k826.trans k30 (fun _ _ h => h.elim)⟩, by simp only; omega⟩
    rw [List.length_append]
    exact Row.keep (Row.keep (Row.keep row18 g3 (fun q hq e => by have := (Row.blk row18 hq).1; omega)) k26 (fun _ _ h => h)) k30 (fun _ _ h => h)
/-- Chain -/
theorem ref12_Chain (H : IsR2 w F r D P) (hD : D.length ≤ 10000) (a b : HT) (hK : ∀ w' (x : Bool), (x = true ↔ Ch D P a b) → Kept Nil w w' → K (.bool x) w') :
    Ret Tryz.prog ref12_Index_Chain.id #[.pointer (some ⟨r, 0, none⟩), .agg a.1, .agg b.1] w K := by
  refine ref12_Index_Chain.of ?_
  unfold ref12_Index_Chain.W
  intro w4 w5 w6
  have k4 : Kept Nil w w4 := (Kept.refl _ _).alloc _
  have ha4 : w4.heap[w.heap.size]? = some (.cells a.1 T_api_Hash (0, 0)) := new_blk w _
  have k5 : Kept Nil w4 w5 := (Kept.refl _ _).alloc _
  have hb5 : w5.heap[w4.heap.size]? = some (.cells b.1 T_api_Hash (0, 0)) := new_blk w4 _
  have k6 : Kept Nil w5 w6 := (Kept.refl _ _).drew
  clear_value w6
  have ha6 := (k5.trans k6 (fun _ _ h => h)).heap ha4 (fun h => h)
  have hb6 := k6.heap hb5 (fun h => h)
  have k06 := (k4.trans k5 (fun _ _ h => h)).trans k6 (fun _ _ h => h)
  refine ⟨b.1, ⟨b.2.1, Cells.blk hb6⟩, a.1, ⟨a.2.1, Cells.blk ha6⟩, ?_⟩
  refine ref12_Up (H.same k06) hD b fun A10 c10 w10 l hc row10 k10 => ⟨A10, _, c10, rfl, ⟨a.1, rfl, a.2.1, Cells.blk (k10.heap ha6 (fun h => h))⟩, ?_⟩
  have k010 := k06.trans k10 (fun _ _ h => h)
  have hll : l.length ≤ 1000000 := by
    rcases hc with ⟨_, rfl⟩ | ⟨i, nd, ks, h1, _, h3, rfl⟩
    · simp
    · have := h3.len H.sel.par
      have := (List.getElem?_eq_some_iff.1 h1).1
      simp only [List.length_map]
      omega
  refine ref_In a (HRow.hs row10) hll fun w13 k13 => ⟨_, rfl, hK w13 _ ?_ (k010.trans k13 (fun _ _ h => h))⟩
  rw [decide_eq_true_iff]
  exact hc.mem H.W H.sel
end
end Go.Proofs.YtgfkpemnkmebkaaGreatDoor
/-
  The document's index: New, Add.
-/
namespace Go.Proofs.YtgfkpemnkmebkaaGreatDoor
open Go Go.Lite Go.RowKit

theorem set1 (w : World) (r j : Nat) (v : Value) : setCells w ((⟨r, 0, none⟩ : Addr).add j) [v] 0 = w.setCell ⟨r, j, none⟩ v := by
  simp only [setCells]
  rw [add_at, add_at, Nat.add_zero, Nat.zero_add]
theorem hash_set {v : World} {b : Nat} {z : Array Value} {t : TypeId} (s : HT) (h : v.heap[b]? = some (.cells z t (0, 0))) (hz : z.size = 32) :
    (s.1.size = 32 ∧ (∀ c ∈ s.1.toList, c.oneCell' = true) ∧ ∀ j, j < 32 → Wr v ((⟨b, 0, none⟩ : Addr).add j)) ∧ (setCells v (⟨b, 0, none⟩ : Addr) s.1.toList 0).heap[b]? = some (.cells s.1 t (0, 0)) ∧ Kept (· = b) v (setCells v (⟨b, 0, none⟩ : Addr) s.1.toList 0) := by
  obtain ⟨h1, h2, h3⟩ := set_box h (cs := s.1) (by rw [s.2.1]; exact hz)
  exact ⟨⟨s.2.1, s.2.one, fun j hj => h1 j (by rw [s.2.1]; exact hj)⟩, h2, h3⟩
theorem Sel.one (r : HT) : Sel [⟨r, []⟩] [-1] := ⟨rfl, rfl, fun i p nd hi hp => by
  cases i with
  | zero => omega
  | succ i => simp at hp⟩
section
variable {w w' : World} {F F' S : Nat → Prop} {r : Nat} {D : DG} {P : List Int} {K : Value → World → Prop}
theorem ref12_New_ok (root : HT) (hK : ∀ v r F, IsR2 v F r [⟨root, []⟩] [-1] → (∀ k, F k → w.heap.size ≤ k ∧ k < v.heap.size) → w.heap.size ≤ r → Kept Nil w v → K (.pointer (some ⟨r, 0, none⟩)) v) :
    Ret Tryz.prog ref12_New.id #[.agg root.1] w K := by
  refine ref12_New.of ?_
  unfold ref12_New.W
  intro w2
  have k2 : Kept Nil w w2 := (Kept.refl _ _).alloc _
  have hb2 : w2.heap[w.heap.size]? = some (.cells root.1 T_api_Hash (0, 0)) := new_blk w _
  clear_value w2
  have hsz : (root.1.push (.slice none 0 0)).size = 33 := by rw [Array.size_push, root.2.1]
  refine ⟨root.1, ⟨root.2.1, Cells.blk hb2⟩, ?_⟩
  rw [builtRef]
  refine Is.mk rfl ⟨hsz, ?_⟩
  intro w5
  have h5 : w5.heap[w2.heap.size]? = some (.cells (root.1.push (.slice none 0 0)) T_plexusref10_Node (0, 0)) := by
    have := new_blk w2 (.cells (root.1.push (.slice none 0 0)) T_plexusref10_Node)
    show (w2.alloc (.cells ((root.1.push (.slice none 0 0)).toList ++ []).toArray T_plexusref10_Node)).heap[w2.heap.size]? = _
    rw [List.append_nil, Array.toArray_toList]
    exact this
  have k5 : Kept Nil w2 w5 := (Kept.refl _ _).alloc _
  clear_value w5
  refine ⟨rfl, ?_⟩
  intro w6
  have h6 : w6.heap[w5.heap.size]? = some (.cells hnull.1 T_api_Hash (0, 0)) := new_blk w5 _
  have k6 : Kept Nil w5 w6 := (Kept.refl _ _).alloc _
  clear_value w6
  intro w7
  have h7 : w7.heap[w6.heap.size]? = some (.cells #[.slice (some ⟨w2.heap.size, 0, none⟩) 1 1, .slice (some ⟨w5.heap.size, 0, none⟩) 1 1] T_plexusref12_Index (0, 0)) := new_blk w6 _
  have k7 : Kept Nil w6 w7 := (Kept.refl _ _).alloc _
  clear_value w7
  have s2 := k2.size
  have s5 := k5.size
  have s6 := k6.size
  have l5 := lt_blk h5
  have l6 := lt_blk h6
  have h57 := k7.heap (k6.heap h5 (fun h => h)) (fun h => h)
  have h67 := k7.heap h6 (fun h => h)
  have l67 := lt_blk h67
  refine hK w7 _ (fun k => k = w2.heap.size ∨ k = w5.heap.size) ⟨⟨_, _, _, _, [hnull], h7, ⟨rfl, fun i nd hi => ?_⟩, HS.one h67, fun a ha => by cases ha; exact .inr rfl, ⟨rfl, fun i j m hi hj => ?_⟩⟩, fun e => by omega, Sel.one root, WfD.root root⟩ (fun k e => by omega) (by omega) (((k2.trans k5 (fun _ _ h => h)).trans k6 (fun _ _ h => h)).trans k7 (fun _ _ h => h))
  · cases i with
    | zero =>
      simp at hi
      subst hi
      refine ⟨_, none, 0, 0, rfl, lt_blk h57, .inl rfl, fun j u hj => ?_, HS.nil _ _, fun b hb => by cases hb⟩
      rw [Nat.zero_mul, add_zero, add_at, Nat.zero_add, cell_blk h57]
      exact hj
    | succ i => simp at hi
  · cases i with
    | zero => simp at hi
    | succ i => simp at hi
theorem SelL.snoc {l : List HT} (h : SelL D P l) (hs : Sel D P) (W : WfD D) {nd : DN} {j : Nat} {mj : DN} (hj : D[j]? = some mj) : SelL (D ++ [nd]) (P ++ [(j : Int)]) (l ++ [mj.id]) := by
  have hjl := (List.getElem?_eq_some_iff.1 hj).1
  refine ⟨by simp [h.1], fun i k m hi hm => ?_⟩
  by_cases hil : i < P.length
  · rw [List.getElem?_append_left hil] at hi
    have hil' : i < D.length := by rw [← hs.len]; exact hil
    rw [List.getElem?_append_left (by rw [h.1]; exact hil')]
    have hpar := hs.par
    have hk : k < D.length := by
      rcases Nat.eq_zero_or_pos i with rfl | h0
      · rw [hpar.root] at hi; simp only [Option.some.injEq] at hi; omega
      · obtain ⟨j', h1, h2⟩ := hpar.up i _ h0 hi
        omega
    rw [List.getElem?_append_left hk] at hm
    exact h.2 i k m hi hm
  · have hil2 := (List.getElem?_eq_some_iff.1 hi).1
    have e : i = P.length := by simp at hil2; omega
    subst e
    simp at hi
    have : k = j := by omega
    subst this
    rw [List.getElem?_append_left hjl, hj] at hm
    cases hm
    rw [hs.len, ← h.1]
    simp
theorem ref12_Add (H : IsR2 w F r D P) (hF : ∀ k, F k → k < w.heap.size) (hD : D.length ≤ 5000) {h s : HT} {lp : List HT} {A : Option Addr} {n c : Nat} (hl : HS w A n lp) (hn : n ≤ 100000)
    (hK : ∀ w', IsR2 w' (fun k => F k ∨ (w.heap.size ≤ k ∧ k < w'.heap.size)) r (addXD D h s lp) (addXP D P h s lp) → Kept (· = r) w w' → K (.int .i64 (addXC D h s lp)) w') :
    Ret Tryz.prog ref12_Index_Add.id #[.pointer (some ⟨r, 0, none⟩), .agg h.1, .agg s.1, .slice A n c] w K := by
  have hrlt := H.lt
  have W := H.W
  have hno : ∀ w', Kept Nil w w' → ∀ e, addXC D h s lp = e → e ≠ 0 → K (.int .i64 e) w' := fun w' k e he hne => by
    have := hK w' ?_ (k.mono fun _ _ h => h.elim)
    · rw [he] at this; exact this
    · unfold addXD addXP
      rw [if_neg (by rw [he]; exact hne), if_neg (by rw [he]; exact hne)]
      exact (H.same k).mono (fun _ h => .inl h) (fun e => e.elim H.far (fun h => by omega))
  refine ref12_Index_Add.of ?_
  unfold ref12_Index_Add.W
  intro w5 w6
  have k5 : Kept Nil w w5 := (Kept.refl _ _).alloc _
  have hi5 : w5.heap[w.heap.size]? = some (.cells h.1 T_api_Hash (0, 0)) := new_blk w _
  have k6 : Kept Nil w5 w6 := (Kept.refl _ _).alloc _
  have hs6 : w6.heap[w5.heap.size]? = some (.cells s.1 T_api_Hash (0, 0)) := new_blk w5 _
  clear_value w6
  have hi6 := k6.heap hi5 (fun h => h)
  have k06 := k5.trans k6 (fun _ _ h => h)
  have s5 := k5.size
  have s6 := k6.size
  have l5 := lt_blk hi5
  have l6 := lt_blk hs6
  clear_value w5
  obtain ⟨A0, c0, B0, e0, sl, htop, hns, hsl, hB0, hSel⟩ := H.ex
  have htop6 := k06.heap htop (fun h => h)
  refine Is.mk rfl ⟨#[.slice A0 D.length c0], ⟨rfl, fun j v hj => ?_⟩, ?_⟩
  · cases j with
    | zero =>
      rw [add_zero, add_zero, cell_blk htop6]
      simpa using hj
    | succ j => simp at hj
  intro w9
  have h9 : w9.heap[w6.heap.size]? = some (.cells #[.slice none 0 0] T_plexusref10_Graph (0, 0)) := new_blk w6 _
  have k9 : Kept Nil w6 w9 := (Kept.refl _ _).alloc _
  clear_value w9
  obtain ⟨g1, g2, g3⟩ := set_box h9 (cs := #[.slice A0 D.length c0]) rfl
  refine ⟨⟨rfl, fun u hu => ?_, fun j hj => g1 j hj⟩, ?_⟩
  · simp at hu
    subst hu
    rfl
  intro w12
  replace g2 : w12.heap[w6.heap.size]? = some (.cells #[.slice A0 D.length c0] T_plexusref10_Graph (0, 0)) := g2
  replace g3 : Kept (· = w6.heap.size) w9 w12 := g3
  clear_value w12
  have k612 : Kept Nil w6 w12 := k9.trans g3 (fun k hk e => by omega)
  have k012 := k06.trans k612 (fun _ _ h => h)
  refine ⟨h.1, ⟨h.2.1, Cells.blk (k612.heap hi6 (fun h => h))⟩, ?_⟩
  have hR : IsR w12 F w6.heap.size D := ⟨⟨A0, c0, _, _, g2, rfl, hns.same k012⟩, fun e => by have := hF _ e; omega⟩
  have s12 := k012.size
  refine ref_Add hR W (by omega) (hl.same k012) (by omega) fun w15 hR15 k15 => ⟨_, rfl, ?_⟩
  have k015 : Kept Nil w w15 := k012.trans k15 (fun k hk e => by omega)
  by_cases hC : addC D h lp ≠ 0
  · refine Split.yes (by simpa using hC) ?_
    refine hno w15 k015 _ ?_ hC
    unfold addXC
    rw [if_neg hC]
  replace hC := Classical.not_not.1 hC
  refine Split.no (by rw [hC]; rfl) ?_
  have hs15 : w15.heap[w5.heap.size]? = some (.cells s.1 T_api_Hash (0, 0)) := k15.heap (k612.heap hs6 (fun h => h)) (by omega)
  refine ⟨s.1, ⟨s.2.1, Cells.blk hs15⟩, ref_In s (hl.same k015) (by omega) fun w19 k19 => ⟨_, rfl, ?_⟩⟩
  have k019 := k015.trans k19 (fun _ _ h => h)
  by_cases hsm : ¬ s ∈ lp
  · refine Split.yes (by rw [decide_eq_false hsm]; rfl) ?_
    refine hno w19 k019 2 ?_ (by omega)
    unfold addXC
    rw [if_pos hC, if_neg hsm]
  replace hsm := Classical.not_not.1 hsm
  refine Split.no (by rw [decide_eq_true hsm]; rfl) ?_
  have eX : addXC D h s lp = 0 := by unfold addXC; rw [if_pos hC, if_pos hsm]
  obtain ⟨hin, hne, hnd, hall⟩ := addC_ok hC
  obtain ⟨mj, hmj, hms⟩ := ids_mem.1 (hall s (mem_srt.2 hsm))
  obtain ⟨j, hj⟩ := List.mem_iff_getElem?.1 hmj
  have eP : addXP D P h s lp = P ++ [(j : Int)] := by
    unfold addXP
    rw [if_pos eX, ← hms, W.pos_eq hj]
    rfl
  have eD : addXD D h s lp = D ++ [⟨h, srt lp⟩] := by unfold addXD; rw [if_pos eX]
  rw [addD_yes hC] at hR15
  obtain ⟨A1, c1, cs1, t1, h1, hc1, hns1⟩ := (hR15.same k19).ex
  rw [List.length_append, List.length_singleton] at hns1 hc1
  have hg19 : w19.cell? (⟨w6.heap.size, 0, none⟩ : Addr) = some (.slice A1 (D.length + 1) c1) := by rw [cell_blk h1]; exact hc1
  have sz1 := k019.size
  have htop19 := k019.heap htop (fun h => h)
  refine ⟨#[.slice A1 (D.length + 1) c1], ⟨rfl, fun i v hi => ?_⟩, Is.mk rfl ⟨⟨rfl, fun u hu => ?_, fun i hi => ?_⟩, ?_⟩⟩
  · cases i with
    | zero =>
      rw [add_zero, hg19]
      simpa using hi
    | succ i => simp at hi
  · simp at hu
    subst hu
    rfl
  · have : i = 0 := by omega
    subst this
    rw [add_zero, add_zero]
    exact wr_blk htop19 (by simp)
  intro w25 w26
  have hw25 : w25.heap[r]? = some (.cells #[.slice A1 (D.length + 1) c1, .slice B0 D.length e0] T_plexusref12_Index (0, 0)) := by
    show (setCells w19 ((⟨r, 0, none⟩ : Addr).add 0) [.slice A1 (D.length + 1) c1] 0).heap[r]? = _
    rw [set1, set_blk htop19]
    rfl
  have k25 : Kept (· = r) w19 w25 := by
    show Kept (· = r) w19 (setCells w19 ((⟨r, 0, none⟩ : Addr).add 0) [.slice A1 (D.length + 1) c1] 0)
    rw [add_zero]
    exact setCells_kept _ _ _ _
  have k26 : Kept Nil w25 w26 := (Kept.refl _ _).drew
  clear_value w26 w25
  have hw26 := k26.heap hw25 (fun h => h)
  have k1926 : Kept (· = r) w19 w26 := k25.trans k26 (fun _ _ h => h.elim)
  have hsl26 : HS w26 B0 D.length sl := (hsl.same k019).keep k1926 (fun a ha e => H.far (e ▸ hB0 a ha))
  have hs26 : w26.heap[w5.heap.size]? = some (.cells s.1 T_api_Hash (0, 0)) := k1926.heap (k19.heap hs15 (fun h => h)) (fun e => by omega)
  refine Is.mk rfl ⟨B0, D.length, e0, by rw [add_at, cell_blk hw26]; rfl, s.1, ⟨s.2.1, Cells.blk hs26⟩, ?_⟩
  -- what both orders come to
  have fin : ∀ (v : World) (A2 : Option Addr) (c2 : Nat), Kept Nil w26 v → HRow v w26.heap.size A2 (D.length + 1) c2 (sl ++ [s]) →
      Is (some (⟨r, 0, none⟩ : Addr)) fun a => Wr v (a.add 1) ∧ K (.int .i64 0) (v.setCell (a.add 1) (.slice A2 (D.length + 1) c2)) := fun v A2 c2 kv row => by
    refine Is.mk rfl ?_
    rw [add_at]
    have hv := kv.heap hw26 (fun h => h)
    have kf : Kept (· = r) v (v.setCell ⟨r, 0 + 1, none⟩ (.slice A2 (D.length + 1) c2)) := Kept.setCell (S := fun k => k = r) (Kept.refl _ v) (p := ⟨r, 0 + 1, none⟩) (fun _ => rfl) _
    refine ⟨wr_blk hv (by simp), ?_⟩
    have kall : Kept (· = r) w (v.setCell ⟨r, 0 + 1, none⟩ (.slice A2 (D.length + 1) c2)) := (((k019.mono (S' := (· = r)) (fun _ _ h => h.elim)).trans k1926 (fun _ _ h => h)).trans kv (fun _ _ h => h.elim)).trans kf (fun _ _ h => h)
    have := hK (v.setCell ⟨r, 0 + 1, none⟩ (.slice A2 (D.length + 1) c2)) ?_ kall
    · rw [eX] at this
      exact this
    rw [eD, eP]
    have hbA : ∀ b, blkOf A2 = some b → w26.heap.size ≤ b ∧ b < v.heap.size := fun b hb => by
      obtain ⟨q1, cur, q2⟩ := Row.blk row hb
      exact ⟨q1, lt_blk q2⟩
    have s26 := k1926.size
    have sv := kv.size
    have sf := kf.size
    have k1526 : Kept (· = r) w15 w26 := (k19.mono (S' := (· = r)) (fun _ _ h => h.elim)).trans k1926 (fun _ _ h => h)
    refine ⟨⟨A1, c1, A2, c2, sl ++ [s], ?_, ?_, ?_, fun a ha => .inr ?_, ?_⟩, fun e => e.elim H.far (fun e => by omega), H.sel.snoc hj (by rw [hms]; exact mem_srt.2 hsm) (by have := (List.getElem?_eq_some_iff.1 hj).1; omega), W.snoc hin hall (SS_srt lp)⟩
    · rw [List.length_append, List.length_singleton, set_blk hv]
      rfl
    · rw [List.length_append, List.length_singleton]
      have hk' : Kept (· = r) w19 (v.setCell ⟨r, 0 + 1, none⟩ (.slice A2 (D.length + 1) c2)) := (k1926.trans kv (fun _ _ h => h.elim)).trans kf (fun _ _ h => h)
      refine (hns1.keep hk' fun k hk e => ?_).mono fun k hk => ?_
      · rcases hk with hk | hk
        · exact H.far (e ▸ hk)
        · omega
      · rcases hk with hk | hk
        · exact .inl hk
        · have := k19.size
          exact .inr ⟨by omega, by omega⟩
    · rw [List.length_append, List.length_singleton]
      exact (HRow.hs row).keep kf (fun a ha e => by have := hbA a.block (by rw [ha]; rfl); omega)
    · have := hbA a.block (by rw [ha]; rfl)
      exact ⟨by omega, by omega⟩
    · rw [← hms]
      exact hSel.snoc H.sel W hj
  have hcs : ∀ {u : World}, Kept Nil w26 u → ∃ cs : Array Value, (.agg s.1 : Value) = .agg cs ∧ cs.size = 32 ∧ Cells u (⟨w5.heap.size, 0, none⟩ : Addr) cs := fun k => ⟨s.1, rfl, s.2.1, Cells.blk (k.heap hs26 (fun h => h))⟩
  refine ⟨?_, ?_⟩
  · obtain ⟨A3, c3, w31, hr31, row31, hg31, hb31⟩ := append_hs (cx := e0) T_sl_api_Hash (HRow.nil w26 w26.heap.size) hsl26 (by omega) (Nat.le_refl _)
    rw [Nat.zero_add] at hr31 row31
    rw [List.nil_append] at row31
    have k31 : Kept Nil w26 w31 := Kept.growNew (Kept.refl _ _) hg31 (fun k hk => by cases hk)
    refine ⟨A3, _, c3, w31, hr31, hcs k31, s.2.1, ?_⟩
    intro w32
    have k32 : Kept Nil w31 w32 := (Kept.refl _ _).alloc _
    have hx32 : HS w32 (some ⟨w31.heap.size, 0, none⟩) 1 [s] := hbox w31 s
    clear_value w32
    have s32 := k32.size
    have s31 := k31.size
    obtain ⟨A4, c4, w34, hr34, row34, hg34, hb34⟩ := append_hs (cx := 1) T_sl_api_Hash (Row.keep row31 k32 (fun _ _ h => h)) hx32 (by omega) (by omega)
    have k34 : Kept Nil w26 w34 := Kept.growNew (k31.trans k32 (fun _ _ h => h)) hg34 (fun k hk => (Row.blk row31 hk).1)
    exact ⟨A4, _, c4, w34, hr34, fin w34 A4 c4 k34 row34⟩
  · refine ⟨s.2.1, ?_⟩
    intro w37
    have k37 : Kept Nil w26 w37 := (Kept.refl _ _).alloc _
    have hx37 : HS w37 (some ⟨w26.heap.size, 0, none⟩) 1 [s] := hbox w26 s
    clear_value w37
    have s37 := k37.size
    refine ⟨by rw [add_at, cell_blk (k37.heap hw26 (fun h => h))]; rfl, ?_⟩
    obtain ⟨A3, c3, w39, hr39, row39, hg39, hb39⟩ := append_hs (cx := e0) T_sl_api_Hash (HRow.nil w37 w37.heap.size) (hsl26.same k37) (by omega) (Nat.le_refl _)
    rw [Nat.zero_add] at hr39 row39
    rw [List.nil_append] at row39
    have k39 : Kept Nil w37 w39 := Kept.growNew (Kept.refl _ _) hg39 (fun k hk => by cases hk)
    have s39 := k39.size
    obtain ⟨A4, c4, w41, hr41, row41, hg41, hb41⟩ := append_hs (cx := 1) T_sl_api_Hash row39 (hx37.same k39) (by omega) (by omega)
    have k41 : Kept Nil w37 w41 := Kept.growNew k39 hg41 (fun k hk => (Row.blk row39 hk).1)
    exact ⟨A3, _, c3, w39, hr39, A4, _, c4, w41, hr41, fin w41 A4 c4 (k37.trans k41 (fun _ _ h => h)) (Row.base row41 (fun k hk => by have := (Row.blk row41 hk).1; omega))⟩
end
end Go.Proofs.YtgfkpemnkmebkaaGreatDoor
/-
  Steps of an index; few, all; both indexes side by side; begin.
-/
namespace Go.Proofs.YtgfkpemnkmebkaaGreatDoor
open Go Go.Lite Go.RowKit

/-- a step: who, its selected parent, its parents -/
structure SN where
  id : HT
  sel : HT
  ps : List HT
/-- a slice of steps, to be read; F: where all that lies -/
structure Stp (w : World) (F : Nat → Prop) (A : Option Addr) (n : Nat) (l : List SN) : Prop where
  len : l.length = n
  at_ : ∀ (i : Nat) sn, l[i]? = some sn → ∃ a pA pn pc, A = some a ∧ F a.block ∧ Cells w (a.add (i * 65)) sn.id.1 ∧ Cells w ((a.add (i * 65)).add 32) sn.sel.1 ∧ w.cell? ((a.add (i * 65)).add 64) = some (.slice pA pn pc) ∧ HS w pA pn sn.ps ∧ ∀ b, pA = some b → F b.block
theorem Stp.keep {S F : Nat → Prop} {w w' : World} {A : Option Addr} {n : Nat} {l : List SN} (h : Stp w F A n l) (hk : Kept S w w') (hn : ∀ k, F k → ¬ S k) : Stp w' F A n l := ⟨h.len, fun i sn hi => by
  obtain ⟨a, pA, pn, pc, h1, h2, h3, h4, h5, h6, h7⟩ := h.at_ i sn hi
  exact ⟨a, pA, pn, pc, h1, h2, Cells.keep h3 hk (by rw [addr_block]; exact hn _ h2), Cells.keep h4 hk (by rw [addr_block, addr_block]; exact hn _ h2), hk.cell h5 (by rw [addr_block, addr_block]; exact hn _ h2), h6.keep hk (fun b hb => hn _ (h7 b hb)), h7⟩⟩
theorem Stp.same {F : Nat → Prop} {w w' : World} {A : Option Addr} {n : Nat} {l : List SN} (h : Stp w F A n l) (hk : Kept Nil w w') : Stp w' F A n l := h.keep hk (fun _ _ h => h)

def fewS (l : List SN) (most : Nat) : Prop := (∀ sn ∈ l, sn.ps.length ≤ 8) ∧ l.length ≤ most
section
variable {w w' v : World} {F FP FR S S2 F2 : Nat → Prop} {x r : Nat} {D D' : DG} {P P' : List Int} {K : Value → World → Prop}
theorem fewS_ok {A : Option Addr} {n c : Nat} {l : List SN} (hl : Stp w FP A n l) (hn : n < 9223372036854775808) (most : Nat) (hK : ∀ x : Bool, (x = true ↔ fewS l most) → K (.bool x) w) :
    Ret Tryz.prog law12_few.id #[.slice A n c, .int .i64 (most : Int)] w K := by
  have hlen := hl.len
  refine law12_few.of (law12_few.loop1 (I := fun s w' => w' = w ∧ ∃ i : Nat, s = (false, (i : Int)) ∧ i ≤ n ∧ ∀ nd ∈ l.take i, nd.ps.length ≤ 8) (μ := fun s _ => ((n : Int) - s.2).toNat) (s := (false, 0)) ⟨rfl, 0, rfl, Nat.zero_le _, by simp⟩ ?_)
  rintro s w' ⟨rfl, i, rfl, hi, hall⟩
  refine Split.dec (fun hil0 => ?_) (fun hge => ?_)
  · simp only at hil0
    have hil : i < n := by omega
    obtain ⟨nd, hnd⟩ : ∃ nd, l[i]? = some nd := ⟨_, List.getElem?_eq_getElem (by omega)⟩
    obtain ⟨a, pA, pn, pc, rfl, _, _, _, h5, hps, _⟩ := hl.at_ i nd hnd
    have hpl := hps.len
    refine ⟨⟨by omega, by omega⟩, pA, pn, pc, by rw [Int.toNat_natCast]; exact h5, ?_⟩
    refine Split.dec (fun hgt => ?_) (fun hle => ?_)
    · refine hK false ⟨(fun h => by cases h), fun h => ?_⟩
      have := h.1 nd (List.mem_of_getElem? hnd)
      omega
    · simp only
      rw [wrapI (x := (i : Int) + 1) (by omega) (by omega)]
      refine ⟨(false, (i : Int) + 1), rfl, ⟨rfl, i + 1, rfl, hil, fun md hm => ?_⟩, by simp only; omega⟩
      rw [List.take_add_one, hnd] at hm
      simp only [Option.toList_some, List.mem_append, List.mem_singleton] at hm
      rcases hm with hm | rfl
      · exact hall md hm
      · omega
  · simp only at hge
    rw [roundQ_exit, law12_few.x1_0]
    rw [List.take_of_length_le (by omega)] at hall
    refine hK _ ⟨fun h => ⟨hall, ?_⟩, fun h => decide_eq_true ?_⟩
    · have := of_decide_eq_true h; omega
    · have := h.2; omega

/-- the document's nodes, read through an index -/
theorem IsR2.go (H : IsR2 w F r D P) {k : Option Addr → Nat → Prop} (hk : ∀ A c, NS w F A D.length D → k A c) : ∃ A n c, w.cell? (((⟨r, 0, none⟩ : Addr).add 0).add 0) = some (.slice A n c) ∧ n = D.length ∧ k A c := by
  obtain ⟨A, c, B, e, l, h1, h2, _⟩ := H.ex
  exact ⟨A, D.length, c, by rw [add_zero, add_zero, cell_blk h1]; rfl, rfl, hk A c h2⟩
theorem all_ok (H : IsR2 w F r D P) (hD : D.length ≤ 10000) (other : HT) (hK : ∀ A c w', HRow w' w.heap.size A (D.length + 1) c (other :: ids D) → Kept Nil w w' → K (.slice A (D.length + 1) c) w') :
    Ret Tryz.prog law12_all.id #[.pointer (some ⟨r, 0, none⟩), .agg other.1] w K := by
  refine law12_all.of ?_
  unfold law12_all.W
  intro w3
  have k3 : Kept Nil w w3 := (Kept.refl _ _).alloc _
  have hb3 : w3.heap[w.heap.size]? = some (.cells other.1 T_api_Hash (0, 0)) := new_blk w _
  clear_value w3
  refine ⟨other.1, ⟨other.2.1, Cells.blk hb3⟩, other.2.1, ?_⟩
  intro w5
  have k5 : Kept Nil w3 w5 := (Kept.refl _ _).alloc _
  have hb5 : w5.heap[w3.heap.size]? = some (.cells (other.1.toList ++ []).toArray T_api_Hash (0, 0)) := new_blk w3 _
  clear_value w5
  have k05 := k3.trans k5 (fun _ _ h => h)
  have s3 := k3.size
  have row5 : HRow w5 w.heap.size (some ⟨w3.heap.size, 0, none⟩) 1 1 [other] := by
    have e : hcells [other] = (other.1.toList ++ []).toArray.toList := by simp [hcells]
    show Row _ _ _ _ _ _ _ (hcells [other])
    rw [e]
    exact Row.made hb5 (by omega) (by simp [other.2.1]) (by unfold maxLen; omega)
  refine law12_all.loop1 (I := fun s v => ∃ (i : Nat) (A : Option Addr) (c : Nat), s = (A, i + 1, c, (i : Int)) ∧ i ≤ D.length ∧ HRow v w.heap.size A (i + 1) c (other :: (ids D).take i) ∧ Kept Nil w v) (μ := fun s _ => ((D.length : Int) - s.2.2.2).toNat) (s := (some ⟨w3.heap.size, 0, none⟩, 1, 1, 0)) ⟨0, _, _, rfl, Nat.zero_le _, row5, k05⟩ ?_
  rintro s v ⟨i, A, c, rfl, hi, row, kv⟩
  obtain ⟨A0, n0, c0, hc0, rfl, hns⟩ := (H.same kv).go (k := fun A c => NS v F A D.length D) (fun _ _ h => h)
  refine Is.mk rfl ⟨A0, D.length, c0, hc0, Split.dec (fun hil0 => ?_) (fun hge => ?_)⟩
  · simp only at hil0
    have hil : i < D.length := by omega
    obtain ⟨nd, hnd⟩ : ∃ nd, D[i]? = some nd := ⟨_, List.getElem?_eq_getElem hil⟩
    refine Is.mk rfl ⟨A0, D.length, c0, hc0, ?_⟩
    refine hns.id (i := (i : Int)) (by omega) (by rw [Int.toNat_natCast]; exact hnd) ⟨nd.id.2.1, ?_⟩
    intro w16
    have k16 : Kept Nil v w16 := (Kept.refl _ _).alloc _
    have hx16 : HS w16 (some ⟨v.heap.size, 0, none⟩) 1 [nd.id] := hbox v nd.id
    clear_value w16
    have sv := kv.size
    have s16 := k16.size
    obtain ⟨A2, c2, w18, hr18, row18, hg18, _⟩ := append_hs (cx := 1) T_sl_api_Hash (Row.keep row k16 (fun _ _ h => h)) hx16 (by omega) (by omega)
    refine ⟨A2, _, c2, w18, hr18, ?_⟩
    simp only
    rw [wrapP (n := (i : Int)) (by omega) (by omega)]
    refine ⟨(A2, i + 1 + 1, c2, (i : Int) + 1), rfl, ⟨i + 1, A2, c2, rfl, hil, ?_, Kept.growNew (kv.trans k16 (fun _ _ h => h)) hg18 (fun k hk => (Row.blk row hk).1)⟩, by simp only; omega⟩
    have e : other :: (ids D).take (i + 1) = other :: (ids D).take i ++ [nd.id] := by rw [List.take_add_one, ids_get hnd]; rfl
    rw [e]
    exact row18
  · simp only at hge
    have : i = D.length := by omega
    subst this
    rw [roundQ_exit, law12_all.x1_0]
    rw [List.take_of_length_le (by rw [ids_len]; exact Nat.le_refl _)] at row
    exact hK A c v row kv

/-- Add of an index, whatever comes of it -/
theorem reach_AddI (h : IsX w S F x D P) (hD : D.length ≤ 5000) (hT : Tab w) (hTn : ¬ S (Tryz.tzL_ren.g 1)) {A : Option Addr} {n cx : Nat} {lp : List HT} (hl : HS w A n lp) (hn : n ≤ 5000) (hid s : HT)
    (hK : ∀ u S' F', IsX u S' F' x (addXD D hid s lp) (addXP D P hid s lp) → Kept S w u → (∀ k, S' k → S k ∨ w.heap.size ≤ k) → (∀ k, F' k → F k ∨ w.heap.size ≤ k) → K (.int .i64 (addXC D hid s lp)) u) :
    Ret Tryz.prog reach_Index_Add.id #[.pointer (some ⟨x, 0, none⟩), .agg hid.1, .agg s.1, .slice A n cx] w K := by
  obtain ⟨m, h1, h2⟩ := h
  refine reach_Add h1 hD hT (fun e => hTn (h2 _ (.inl e))) hl hn hid s (fun u k hc => ?_) (fun u S' F' hI k hS hF hc => ?_)
  · refine hK u S F ?_ (k.mono fun _ _ h => h.elim) (fun k h => .inl h) (fun k h => .inl h)
    unfold addXD addXP
    rw [if_neg hc, if_neg hc]
    exact ⟨m, h1.same k, h2⟩
  · have := hK u S' F' hI (k.mono fun k _ h => h2 k h) (fun k h => (hS k h).imp (h2 k) (fun h => h)) hF
    rw [hc] at this
    exact this

/-- the program's index and the document's, the same, apart in memory -/
structure BothX (w : World) (S F : Nat → Prop) (x : Nat) (FR : Nat → Prop) (r : Nat) (D : DG) (P : List Int) : Prop where
  X : IsX w S F x D P
  R : IsR2 w FR r D P
  rS : ¬ S r
  rF : ¬ F r
  fS : ∀ k, FR k → ¬ S k
  low : ∀ k, FR k → k < w.heap.size
theorem IsX.low (h : IsX w S F x D P) : ∃ S', IsX w S' F x D P ∧ ∀ k, S' k → S k ∧ k < w.heap.size :=
  let ⟨m, h1, h2⟩ := h; ⟨fun k => m.foot x k, ⟨m, h1, fun _ h => h⟩, fun k e => ⟨h2 k e, h1.low k (.inl e)⟩⟩
theorem BothX.keep {S0 : Nat → Prop} (B : BothX w S F x FR r D P) (k : Kept S0 w w') (hS : ∀ k, S k → ¬ S0 k) (hF : ∀ k, F k → ¬ S0 k) (hr : ¬ S0 r) (hR : ∀ k, FR k → ¬ S0 k) : BothX w' S F x FR r D P :=
  ⟨B.X.keep k hS hF, B.R.keep k hr hR, B.rS, B.rF, B.fS, fun k' h => Nat.lt_of_lt_of_le (B.low k' h) k.size⟩
theorem BothX.same (B : BothX w S F x FR r D P) (k : Kept Nil w w') : BothX w' S F x FR r D P := B.keep k (fun _ _ h => h) (fun _ _ h => h) (fun h => h) (fun _ _ h => h)
/-- behind the program's Add, and then the document's -/
theorem BothX.after (B : BothX w S F x FR r D P) (kv : Kept S w v) (hS2 : ∀ k, S2 k → S k ∨ w.heap.size ≤ k) (hF2 : ∀ k, F2 k → F k ∨ w.heap.size ≤ k) (hX2 : IsX v S2 F2 x D' P') :
    IsR2 v FR r D P ∧ ∀ u, IsR2 u (fun k => FR k ∨ (v.heap.size ≤ k ∧ k < u.heap.size)) r D' P' → Kept (· = r) v u → ∃ S3, (∀ k, S3 k → S2 k) ∧ BothX u S3 F2 x (fun k => FR k ∨ (v.heap.size ≤ k ∧ k < u.heap.size)) r D' P' := by
  have hr := B.R.lt
  have nS : ¬ S2 r := fun e => by
    rcases hS2 r e with h | h
    · exact B.rS h
    · omega
  have nF : ¬ F2 r := fun e => by
    rcases hF2 r e with h | h
    · exact B.rF h
    · omega
  refine ⟨B.R.keep kv B.rS B.fS, fun u hu ku => ?_⟩
  obtain ⟨S3, hX3, h3⟩ := hX2.low
  refine ⟨S3, fun k hk => (h3 k hk).1, hX3.keep ku (fun k hk e => nS (e ▸ (h3 k hk).1)) (fun k hk e => nF (e ▸ hk)), hu, fun e => nS (h3 _ e).1, nF, fun k hk hs => ?_, fun k hk => ?_⟩
  · obtain ⟨hs1, hs2⟩ := h3 k hs
    rcases hk with hk | ⟨hk, _⟩
    · rcases hS2 k hs1 with h | h
      · exact B.fS k hk h
      · have := B.low k hk; omega
    · omega
  · rcases hk with hk | hk
    · have := B.low k hk
      have := kv.size
      have := ku.size
      omega
    · exact hk.2

/-! what steps come to -/
structure DP where
  D : DG
  P : List Int
def stepX (a : DP) (s : SN) : DP := ⟨addXD a.D s.id s.sel s.ps, addXP a.D a.P s.id s.sel s.ps⟩
def buildX (root : HT) (l : List SN) : DP := l.foldl stepX ⟨[⟨root, []⟩], [-1]⟩
theorem addXD_len (D : DG) (h s : HT) (l : List HT) : (addXD D h s l).length ≤ D.length + 1 := by
  unfold addXD
  split
  · simp
  · omega
theorem stepX_len : ∀ (l : List SN) (a : DP), (l.foldl stepX a).D.length ≤ a.D.length + l.length
  | [], a => Nat.le_refl _
  | s :: l, a => by
    have h1 := stepX_len l (stepX a s)
    have h2 : (stepX a s).D.length ≤ a.D.length + 1 := addXD_len _ _ _ _
    rw [List.foldl_cons, List.length_cons]
    omega
theorem buildX_len (root : HT) (l : List SN) : (buildX root l).D.length ≤ 1 + l.length := by
  have := stepX_len l ⟨[⟨root, []⟩], [-1]⟩
  simpa [buildX] using this
theorem stepX_snoc {a : DP} {l : List SN} {i : Nat} {s : SN} (h : l[i]? = some s) : (l.take (i + 1)).foldl stepX a = stepX ((l.take i).foldl stepX a) s := by
  rw [List.take_add_one, h]
  simp

theorem hs_keep {S : Nat → Prop} {pA : Option Addr} {pn : Nat} {ps : List HT} (h : HS w pA pn ps) (k : Kept S w w') (hs : ps ≠ [] → ∀ a, pA = some a → ¬ S a.block) : HS w' pA pn ps := by
  by_cases h0 : ps = []
  · subst h0
    have := h.len
    simp at this
    subst this
    exact HS.nil _ _
  · exact h.keep k (hs h0)
theorem hs_lt {pA : Option Addr} {pn : Nat} {ps : List HT} (h : HS w pA pn ps) (h0 : ps ≠ []) : ∀ a, pA = some a → a.block < w.heap.size := fun a ha => by
  obtain ⟨y, hy⟩ : ∃ y, ps[0]? = some y := ⟨_, List.getElem?_eq_getElem (by
    rcases Nat.eq_zero_or_pos ps.length with e | e
    · exact absurd (List.length_eq_zero_iff.1 e) h0
    · exact e)⟩
  obtain ⟨a', ha', hlt, _⟩ := h.at_ 0 y hy
  rw [ha] at ha'
  cases ha'
  exact hlt
/-- Add in both, one behind the other -/
theorem both_add (B : BothX v S F x FR r D P) (hD : D.length ≤ 4000) (hT : Tab v) (hTS : ¬ S (Tryz.tzL_ren.g 1)) {pA : Option Addr} {pn cx : Nat} {ps : List HT} (hps : HS v pA pn ps) (hpn : pn ≤ 1000) (hpS : ps ≠ [] → ∀ a, pA = some a → ¬ S a.block) (hid s : HT)
    (hK : ∀ u, Kept S v u → (∀ (c' : Nat) (K' : Value → World → Prop), (∀ t S' F' FR', BothX t S' F' x FR' r (addXD D hid s ps) (addXP D P hid s ps) → Kept (fun k => S k ∨ k = r) v t → (∀ k, S' k → S k ∨ v.heap.size ≤ k) → (∀ k, F' k → F k ∨ v.heap.size ≤ k) → (∀ k, FR' k → FR k ∨ v.heap.size ≤ k) → K' (.int .i64 (addXC D hid s ps)) t) →
        Ret Tryz.prog ref12_Index_Add.id #[.pointer (some ⟨r, 0, none⟩), .agg hid.1, .agg s.1, .slice pA pn c'] u K') → K (.int .i64 (addXC D hid s ps)) u) :
    Ret Tryz.prog reach_Index_Add.id #[.pointer (some ⟨x, 0, none⟩), .agg hid.1, .agg s.1, .slice pA pn cx] v K := by
  refine reach_AddI B.X (by omega) hT hTS hps (by omega) hid s fun u S2 F2 hX2 ku hS2 hF2 => hK u ku ?_
  intro c' K' hK'
  obtain ⟨hR, haft⟩ := B.after ku hS2 hF2 hX2
  have su := ku.size
  refine ref12_Add hR (fun k hk => Nat.lt_of_lt_of_le (B.low k hk) su) (by omega) (hs_keep hps ku hpS) (by omega) fun t hRt kt => ?_
  obtain ⟨S3, h3, hB⟩ := haft t hRt kt
  exact hK' t S3 F2 _ hB ((ku.mono (S' := fun k => S k ∨ k = r) (fun _ _ h => .inl h)).trans kt (fun _ _ h => .inr h)) (fun k hk => hS2 k (h3 k hk)) hF2 (fun k hk => hk.imp (fun h => h) (fun h => by omega))

/-- the steps, at the beginning -/
def BIX (w : World) (root : HT) (l : List SN) (x r : Nat) : Option Addr × Option Addr × Bool × Int → World → Prop := fun s v => ∃ (i : Nat) (S F FR : Nat → Prop), s = (none, none, false, (i : Int)) ∧ i ≤ l.length ∧ BothX v S F x FR r (buildX root (l.take i)).D (buildX root (l.take i)).P ∧ Kept Nil w v ∧ (∀ k, S k → w.heap.size ≤ k) ∧ (∀ k, F k → w.heap.size ≤ k) ∧ (∀ k, FR k → w.heap.size ≤ k) ∧ w.heap.size ≤ r
theorem beginX_ok {A : Option Addr} {n c : Nat} {l : List SN} (hl : Stp w FP A n l) (hn : n ≤ 1000) (hps : ∀ sn ∈ l, sn.ps.length ≤ 8) (root : HT) (hT : Tab w)
    (hK : ∀ v S F x FR r, BothX v S F x FR r (buildX root l).D (buildX root l).P → Kept Nil w v → (∀ k, S k → w.heap.size ≤ k) → (∀ k, F k → w.heap.size ≤ k) → (∀ k, FR k → w.heap.size ≤ k) → w.heap.size ≤ r → K (.tuple #[.pointer (some ⟨x, 0, none⟩), .pointer (some ⟨r, 0, none⟩), .bool true]) v) :
    Ret Tryz.prog law12_begin.id #[.agg root.1, .slice A n c] w K := by
  have hlen := hl.len
  refine law12_begin.of ?_
  unfold law12_begin.W
  intro w3 w4
  have hb4 : w4.heap[w.heap.size]? = some (.cells root.1 T_api_Hash (0, 0)) := new_blk w _
  have k4 : Kept Nil w w4 := ((Kept.refl Nil w).alloc (.cells root.1 T_api_Hash)).drew
  clear_value w4
  have hs4 := k4.size
  refine ⟨root.1, ⟨root.2.1, Cells.blk hb4⟩, root.1, ⟨root.2.1, Cells.blk hb4⟩, ?_⟩
  refine reach_New_ok root fun w8 x hX8 k8 => ⟨_, rfl, ⟨root.1, rfl, root.2.1, Cells.blk (k8.heap hb4 (fun h => h))⟩, ?_⟩
  have s8 := k8.size
  refine ref12_New_ok root fun w11 r FR hR11 hFR hr11 k11 => ⟨_, rfl, ?_⟩
  have s11 := k11.size
  have k011 : Kept Nil w w11 := (k4.trans k8 (fun _ _ h => h)).trans k11 (fun _ _ h => h)
  obtain ⟨S0, hX0, hS0⟩ := hX8.low
  refine law12_begin.loop1 (I := BIX w root l x r) (μ := fun s _ => ((n : Int) - s.2.2.2).toNat) (s := (none, none, false, 0)) ⟨0, S0, fun _ => False, FR, rfl, Nat.zero_le _, ⟨hX0.keep k11 (fun _ _ h => h) (fun _ h => h.elim), hR11, fun e => by have := (hS0 _ e).2; omega, fun h => h, fun k e e' => by have := (hS0 _ e').2; have := (hFR k e).1; omega, fun k e => (hFR k e).2⟩, k011, fun k e => by have := (hS0 _ e).1.1; omega, fun k e => e.elim, fun k e => by have := (hFR k e).1; omega, by omega⟩ ?_
  rintro s v ⟨i, S, F, FR', rfl, hi, B, kv, nS, nF, nR, nr⟩
  unfold law12_begin.B1
  refine Split.dec (fun hil0 => ?_) (fun hge => ?_)
  · simp only at hil0
    have hil : i < n := by omega
    obtain ⟨sn, hsn⟩ : ∃ sn, l[i]? = some sn := ⟨_, List.getElem?_eq_getElem (by omega)⟩
    have hpl := hps sn (List.mem_of_getElem? hsn)
    intro w20
    have k20 : Kept Nil v w20 := (Kept.refl _ _).drew
    clear_value w20
    have kw20 := kv.trans k20 (fun _ _ h => h)
    have sw := kw20.size
    obtain ⟨a, pA, pn, pc, rfl, _, h3, h4, h5, hq, _⟩ := hl.at_ i sn hsn
    have hpn := hq.len
    have hb : 0 ≤ (i : Int) ∧ (i : Int) < (n : Int) := ⟨by omega, by omega⟩
    have c1 : ∀ {u : World}, Kept Nil w u → Cells u ((a.add ((i : Int).toNat * 65)).add 0) sn.id.1 := fun k => by
      rw [Int.toNat_natCast, add_zero]
      exact Cells.keep h3 k (fun h => h)
    have c2 : ∀ {u : World}, Kept Nil w u → Cells u ((a.add ((i : Int).toNat * 65)).add 32) sn.sel.1 := fun k => by
      rw [Int.toNat_natCast]
      exact Cells.keep h4 k (fun h => h)
    have c3 : ∀ {u : World}, Kept Nil w u → u.cell? ((a.add ((i : Int).toNat * 65)).add 64) = some (.slice pA pn pc) := fun k => by
      rw [Int.toNat_natCast]
      exact k.cell h5 (fun h => h)
    refine ⟨hb, Is.mk rfl ⟨sn.id.1, ⟨sn.id.2.1, c1 kw20⟩, hb, Is.mk rfl ⟨sn.sel.1, ⟨sn.sel.2.1, c2 kw20⟩, hb, Is.mk rfl ⟨pA, pn, pc, c3 kw20, hb, Is.mk rfl ⟨sn.id.1, ⟨sn.id.2.1, c1 kw20⟩, hb, Is.mk rfl ⟨sn.sel.1, ⟨sn.sel.2.1, c2 kw20⟩, hb, Is.mk rfl ⟨pA, pn, pc, c3 kw20, ?_⟩⟩⟩⟩⟩⟩⟩
    have hDl := buildX_len root (l.take i)
    rw [List.length_take] at hDl
    have hTlt := hT.lt
    refine both_add (B.same k20) (by omega) (hT.same kw20) (fun e => by have := nS _ e; omega) (hq.same kw20) (by omega) (fun h0 b hb e => by have := nS _ e; have := hs_lt hq h0 b hb; omega) sn.id sn.sel fun u ku h2 => ?_
    have kwu : Kept Nil w u := kw20.trans ku (fun k hk e => by have := nS k e; omega)
    refine ⟨_, rfl, c3 kwu, ⟨sn.sel.1, rfl, sn.sel.2.1, c2 kwu⟩, ⟨sn.id.1, rfl, sn.id.2.1, c1 kwu⟩, h2 _ _ fun t S' F' FR2 B' kt hS' hF' hR' => ⟨_, rfl, Split.no (by simp) ?_⟩⟩
    simp only
    rw [wrapP (n := (i : Int)) (by omega) (by omega)]
    have s20 := k20.size
    refine ⟨(none, none, false, (i : Int) + 1), rfl, ⟨i + 1, S', F', FR2, rfl, by omega, ?_, kw20.trans kt (fun k hk e => e.elim (fun e => by have := nS k e; omega) (fun e => by omega)), fun k hk => (hS' k hk).elim (nS k) (fun h => by omega), fun k hk => (hF' k hk).elim (nF k) (fun h => by omega), fun k hk => (hR' k hk).elim (nR k) (fun h => by omega), nr⟩, by simp only; omega⟩
    have e : buildX root (l.take (i + 1)) = stepX (buildX root (l.take i)) sn := stepX_snoc hsn
    rw [e]
    exact B'
  · simp only at hge
    have : i = l.length := by omega
    subst this
    rw [roundQ_exit, law12_begin.x1_0]
    rw [List.take_of_length_le (Nat.le_refl _)] at B
    exact hK v S F x FR' r B kv nS nF nR nr
end
end Go.Proofs.YtgfkpemnkmebkaaGreatDoor
/-
  known: the chapter's rows.
-/
namespace Go.Proofs.YtgfkpemnkmebkaaGreatDoor
open Go Go.Lite Go.RowKit
open Tr (Und)

/-- four boxes of hashes, written one behind the other -/
theorem four (w : World) (r a b c : HT) :
    let w1 := w.alloc (.cells hnull.1 T_api_Hash); let w2 := w1.alloc (.cells hnull.1 T_api_Hash); let w3 := w2.alloc (.cells hnull.1 T_api_Hash); let w4 := w3.alloc (.cells hnull.1 T_api_Hash)
    let w7 := setCells w4 (⟨w.heap.size, 0, none⟩ : Addr) r.1.toList 0; let w10 := setCells w7 (⟨w1.heap.size, 0, none⟩ : Addr) a.1.toList 0; let w13 := setCells w10 (⟨w2.heap.size, 0, none⟩ : Addr) b.1.toList 0; let w16 := setCells w13 (⟨w3.heap.size, 0, none⟩ : Addr) c.1.toList 0
    ((∀ j, j < 32 → Wr w4 ((⟨w.heap.size, 0, none⟩ : Addr).add j)) ∧ (∀ j, j < 32 → Wr w7 ((⟨w1.heap.size, 0, none⟩ : Addr).add j)) ∧ (∀ j, j < 32 → Wr w10 ((⟨w2.heap.size, 0, none⟩ : Addr).add j)) ∧ (∀ j, j < 32 → Wr w13 ((⟨w3.heap.size, 0, none⟩ : Addr).add j))) ∧
    w16.heap[w.heap.size]? = some (.cells r.1 T_api_Hash (0, 0)) ∧ w16.heap[w1.heap.size]? = some (.cells a.1 T_api_Hash (0, 0)) ∧ w16.heap[w2.heap.size]? = some (.cells b.1 T_api_Hash (0, 0)) ∧ w16.heap[w3.heap.size]? = some (.cells c.1 T_api_Hash (0, 0)) ∧
    w.heap.size < w1.heap.size ∧ w1.heap.size < w2.heap.size ∧ w2.heap.size < w3.heap.size ∧ w3.heap.size < w16.heap.size ∧ Kept Nil w w16 := by
  intro w1 w2 w3 w4
  have k1' : Kept Nil w w1 := (Kept.refl _ _).alloc _
  have k2' : Kept Nil w1 w2 := (Kept.refl _ _).alloc _
  have k3' : Kept Nil w2 w3 := (Kept.refl _ _).alloc _
  have k4' : Kept Nil w3 w4 := (Kept.refl _ _).alloc _
  have hr1 : w1.heap[w.heap.size]? = some (.cells hnull.1 T_api_Hash (0, 0)) := new_blk w _
  have ha2 : w2.heap[w1.heap.size]? = some (.cells hnull.1 T_api_Hash (0, 0)) := new_blk w1 _
  have hb3 : w3.heap[w2.heap.size]? = some (.cells hnull.1 T_api_Hash (0, 0)) := new_blk w2 _
  have hc4 : w4.heap[w3.heap.size]? = some (.cells hnull.1 T_api_Hash (0, 0)) := new_blk w3 _
  clear_value w4
  have hb4 := k4'.heap hb3 (fun h => h)
  have ha4 := k4'.heap (k3'.heap ha2 (fun h => h)) (fun h => h)
  have hr4 := k4'.heap (k3'.heap (k2'.heap hr1 (fun h => h)) (fun h => h)) (fun h => h)
  have l1 := lt_blk hr1
  have l2 := lt_blk ha2
  have l3 := lt_blk hb3
  have l4 := lt_blk hc4
  clear_value w3 w2 w1
  have kw4 : Kept Nil w w4 := ((k1'.trans k2' (fun _ _ h => h)).trans k3' (fun _ _ h => h)).trans k4' (fun _ _ h => h)
  have sz : ∀ h : HT, hnull.1.size = h.1.size := fun h => by rw [h.2.1]; rfl
  obtain ⟨wr7, hr7, k7⟩ := set_box hr4 (cs := r.1) (sz r)
  rw [r.2.1] at wr7
  intro w7
  replace hr7 : w7.heap[w.heap.size]? = some (.cells r.1 T_api_Hash (0, 0)) := hr7
  replace k7 : Kept (· = w.heap.size) w4 w7 := k7
  clear_value w7
  obtain ⟨wr10, ha10, k10⟩ := set_box (k7.heap ha4 (by omega)) (cs := a.1) (sz a)
  rw [a.2.1] at wr10
  intro w10
  replace ha10 : w10.heap[w1.heap.size]? = some (.cells a.1 T_api_Hash (0, 0)) := ha10
  replace k10 : Kept (· = w1.heap.size) w7 w10 := k10
  clear_value w10
  obtain ⟨wr13, hb13, k13⟩ := set_box (k10.heap (k7.heap hb4 (by omega)) (by omega)) (cs := b.1) (sz b)
  rw [b.2.1] at wr13
  intro w13
  replace hb13 : w13.heap[w2.heap.size]? = some (.cells b.1 T_api_Hash (0, 0)) := hb13
  replace k13 : Kept (· = w2.heap.size) w10 w13 := k13
  clear_value w13
  obtain ⟨wr16, hc16, k16⟩ := set_box (k13.heap (k10.heap (k7.heap hc4 (by omega)) (by omega)) (by omega)) (cs := c.1) (sz c)
  rw [c.2.1] at wr16
  intro w16
  replace hc16 : w16.heap[w3.heap.size]? = some (.cells c.1 T_api_Hash (0, 0)) := hc16
  replace k16 : Kept (· = w3.heap.size) w13 w16 := k16
  clear_value w16
  have s16 := lt_blk hc16
  exact ⟨⟨wr7, wr10, wr13, wr16⟩, k16.heap (k13.heap (k10.heap hr7 (by omega)) (by omega)) (by omega), k16.heap (k13.heap ha10 (by omega)) (by omega), k16.heap hb13 (by omega), hc16, by omega, by omega, by omega, s16,
    (((kw4.trans k7 (fun k hk e => by omega)).trans k10 (fun k hk e => by omega)).trans k13 (fun k hk e => by omega)).trans k16 (fun k hk e => by omega)⟩

section
variable {r a b c : HT} (hra : r ≠ a) (hrb : r ≠ b) (hrc : r ≠ c) (hab : a ≠ b) (hac : a ≠ c) (hbc : b ≠ c)
theorem addX_yes {D : DG} {P : List Int} {h s : HT} {l : List HT} (hc : addC D h l = 0) (hs : s ∈ l) {j : Nat} (hj : pos s (ids D) 0 = some j) : addXC D h s l = 0 ∧ addXD D h s l = addD D h l ∧ addXP D P h s l = P ++ [(j : Int)] := by
  have e : addXC D h s l = 0 := by unfold addXC; rw [if_pos hc, if_pos hs]
  refine ⟨e, ?_, ?_⟩
  · unfold addXD addD
    rw [if_pos e, if_pos hc]
  · unfold addXP
    rw [if_pos e, hj]
    rfl
abbrev kP : List Int := [-1, 0, 0, 1]
theorem kSel : Sel (kD r a b c) kP where
  len := rfl
  root := rfl
  up := fun i p nd hi hp hnd => by
    match i, hi with
    | 1, _ => simp at hp hnd; subst hp hnd; exact ⟨0, _, rfl, by omega, rfl, by simp⟩
    | 2, _ => simp at hp hnd; subst hp hnd; exact ⟨0, _, rfl, by omega, rfl, by simp⟩
    | 3, _ => simp at hp hnd; subst hp hnd; exact ⟨1, _, rfl, by omega, rfl, mem_srt.2 (by simp)⟩
    | n + 4, _ => simp at hp
include hra hrb hrc hab hac hbc in
theorem kCh : Ch (kD r a b c) kP a c ∧ ¬ Ch (kD r a b c) kP b c ∧ coverL (kD r a b c) kP b = [c] := by
  have W := kW hra hrb hrc hab hac hbc
  have H := kSel (r := r) (a := a) (b := b) (c := c)
  obtain ⟨h1, h2, h3, h4⟩ := kAnc hra hrb hrc hab hac hbc
  have sc : SelOf (kD r a b c) kP a c := ⟨3, 1, _, _, rfl, rfl, rfl, rfl, rfl⟩
  have sa : SelOf (kD r a b c) kP r a := ⟨1, 0, _, _, rfl, rfl, rfl, rfl, rfl⟩
  refine ⟨⟨3, 1, _, _, rfl, rfl, rfl, rfl, .step rfl (.refl (by decide))⟩, fun h => ?_, ?_⟩
  · rcases h.inv W H with e | ⟨s, g1, g2⟩
    · exact hbc e
    · rw [SelOf.one W g1 sc] at g2
      rcases g2.inv W H with e | ⟨s, g3, g4⟩
      · exact hab e.symm
      · rw [SelOf.one W g3 sa] at g4
        rcases g4.inv W H with e | ⟨s, g5, _⟩
        · exact hrb e.symm
        · exact h1 s (.one (g5.par H))
  · refine SS_ext (SS_srt _) (by simp [SS]) fun x => ?_
    show x ∈ coverL _ _ b ↔ _
    unfold coverL
    rw [mem_pick, List.mem_singleton]
    constructor
    · rintro ⟨hx, hA, _⟩
      simp [ids] at hx
      rcases hx with rfl | rfl | rfl | rfl
      · exact absurd hA (h1 _)
      · exact absurd ((h2 b).1 hA).symm hrb
      · exact absurd hA (Anc.irrefl W _)
      · rfl
    · rintro rfl
      exact ⟨by simp [ids], (h4 b).2 (.inr (.inl rfl)), a, sc, fun e => hab e.symm, fun e => hrb ((h2 b).1 e).symm⟩
end

section
variable {w w' : World} {K : Value → World → Prop}
theorem knownX_ok (hT : Tab w) (hK : ∀ w', Kept Nil w w' → K (.bool true) w') : Ret Tryz.prog law12_known.id #[] w K := by
  let r := hx 1 (by omega)
  let a := hx 2 (by omega)
  let b := hx 3 (by omega)
  let c := hx 4 (by omega)
  have hra : r ≠ a := hx_inj (by omega)
  have hrb : r ≠ b := hx_inj (by omega)
  have hrc : r ≠ c := hx_inj (by omega)
  have hab : a ≠ b := hx_inj (by omega)
  have hac : a ≠ c := hx_inj (by omega)
  have hbc : b ≠ c := hx_inj (by omega)
  refine law12_known.of ?_
  unfold law12_known.W
  intro w1 w2 w3 w4
  obtain ⟨⟨f1, f2, f3, f4⟩, hr, ha, hb, hc, l1, l2, l3, l4, k⟩ := four w r a b c
  refine ⟨⟨r.2.1, r.2.one, f1⟩, ?_⟩
  intro w7
  refine ⟨⟨a.2.1, a.2.one, f2⟩, ?_⟩
  intro w10
  refine ⟨⟨b.2.1, b.2.one, f3⟩, ?_⟩
  intro w13
  refine ⟨⟨c.2.1, c.2.one, f4⟩, ?_⟩
  intro w16
  replace hr : w16.heap[w.heap.size]? = some (.cells r.1 T_api_Hash (0, 0)) := hr
  replace ha : w16.heap[w1.heap.size]? = some (.cells a.1 T_api_Hash (0, 0)) := ha
  replace hb : w16.heap[w2.heap.size]? = some (.cells b.1 T_api_Hash (0, 0)) := hb
  replace hc : w16.heap[w3.heap.size]? = some (.cells c.1 T_api_Hash (0, 0)) := hc
  replace k : Kept Nil w w16 := k
  replace l1 : w.heap.size < w1.heap.size := l1
  replace l2 : w1.heap.size < w2.heap.size := l2
  replace l3 : w2.heap.size < w3.heap.size := l3
  replace l4 : w3.heap.size < w16.heap.size := l4
  clear f1 f2 f3 f4
  clear_value w16
  clear w13 w10 w7
  clear_value w3
  clear w4
  clear_value w2
  clear_value w1
  have hTl := hT.lt
  have s16 := k.size
  -- what stands when only blocks behind w16 are written
  have box : ∀ {u : World} {S : Nat → Prop}, Kept S w16 u → (∀ k, S k → w16.heap.size ≤ k) → Cells u (⟨w.heap.size, 0, none⟩ : Addr) r.1 ∧ Cells u (⟨w1.heap.size, 0, none⟩ : Addr) a.1 ∧ Cells u (⟨w2.heap.size, 0, none⟩ : Addr) b.1 ∧ Cells u (⟨w3.heap.size, 0, none⟩ : Addr) c.1 := fun ku hS =>
    ⟨Cells.blk (ku.heap hr (fun e => by have := hS _ e; omega)), Cells.blk (ku.heap ha (fun e => by have := hS _ e; omega)), Cells.blk (ku.heap hb (fun e => by have := hS _ e; omega)), Cells.blk (ku.heap hc (fun e => by have := hS _ e; omega))⟩
  refine ⟨r.1, ⟨r.2.1, Cells.blk hr⟩, reach_New_ok r fun w19 x hX19 k19 => ⟨_, rfl, ?_⟩⟩
  obtain ⟨c1, c2, c3, c4⟩ := box k19 (fun _ h => h.elim)
  refine ⟨a.1, ⟨a.2.1, c2⟩, r.1, ⟨r.2.1, c1⟩, r.1, ⟨r.2.1, c1⟩, r.2.1, ?_⟩
  intro w24
  have k24 : Kept Nil w19 w24 := (Kept.refl _ _).alloc _
  have hb24 : HS w24 (some ⟨w19.heap.size, 0, none⟩) 1 [r] := hbox w19 r
  clear_value w24
  have k024 := k19.trans k24 (fun _ _ h => h)
  obtain ⟨e1, e2, e3⟩ := addX_yes (D := [⟨r, []⟩]) (P := [-1]) (h := a) (s := r) (l := [r]) (k1 hra).1 (by simp) (j := 0) (by simp [ids, pos])
  rw [(k1 hra).2] at e2
  refine reach_AddI (hX19.same k24) (by simp) (hT.same (k.trans k024 (fun _ _ h => h))) (fun e => by have := e.1; omega) hb24 (by omega) a r fun w26 S2 F2 hX26 k26 hS2 hF2 => ⟨_, rfl, ?_⟩
  rw [e1]
  rw [e2, e3] at hX26
  replace hX26 : IsX w26 S2 F2 x [⟨r, []⟩, ⟨a, [r]⟩] [-1, 0] := hX26
  refine Split.no rfl ?_
  have s24 := k024.size
  have m2 : ∀ q, S2 q → w16.heap.size ≤ q := fun q h => (hS2 q h).elim (fun h => h.1) (fun h => by omega)
  have k1626 : Kept (fun q => w16.heap.size ≤ q) w16 w26 := (k024.mono (S' := fun q => w16.heap.size ≤ q) (fun _ _ h => h.elim)).trans k26 (fun q _ h => h.1)
  obtain ⟨c1, c2, c3, c4⟩ := box k1626 (fun _ h => h)
  refine ⟨b.1, ⟨b.2.1, c3⟩, r.1, ⟨r.2.1, c1⟩, r.1, ⟨r.2.1, c1⟩, r.2.1, ?_⟩
  intro w31
  have k31 : Kept Nil w26 w31 := (Kept.refl _ _).alloc _
  have hb31 : HS w31 (some ⟨w26.heap.size, 0, none⟩) 1 [r] := hbox w26 r
  clear_value w31
  have k1631 := k1626.trans k31 (fun _ _ h => h.elim)
  obtain ⟨e1, e2, e3⟩ := addX_yes (D := [⟨r, []⟩, ⟨a, [r]⟩]) (P := [-1, 0]) (h := b) (s := r) (l := [r]) (k2 hrb hab).1 (by simp) (j := 0) (by simp [ids, pos])
  rw [(k2 hrb hab).2] at e2
  refine reach_AddI (hX26.same k31) (by simp) ((hT.same k).keep k1631 (fun e => by omega)) (fun e => by have := m2 _ e; omega) hb31 (by omega) b r fun w33 S3 F3 hX33 k33 hS3 hF3 => ⟨_, rfl, ?_⟩
  rw [e1]
  rw [e2, e3] at hX33
  replace hX33 : IsX w33 S3 F3 x [⟨r, []⟩, ⟨a, [r]⟩, ⟨b, [r]⟩] [-1, 0, 0] := hX33
  refine Split.no rfl ?_
  have s31 := k1631.size
  have m3 : ∀ q, S3 q → w16.heap.size ≤ q := fun q h => (hS3 q h).elim (m2 q) (fun h => by omega)
  have k1633 : Kept (fun q => w16.heap.size ≤ q) w16 w33 := k1631.trans k33 (fun q _ h => m2 q h)
  obtain ⟨c1, c2, c3, c4⟩ := box k1633 (fun _ h => h)
  refine ⟨c.1, ⟨c.2.1, c4⟩, a.1, ⟨a.2.1, c2⟩, a.1, ⟨a.2.1, c2⟩, b.1, ⟨b.2.1, c3⟩, a.2.1, b.2.1, ?_⟩
  intro w39
  have k39 : Kept Nil w33 w39 := (Kept.refl _ _).alloc _
  have hb39 : HS w39 (some ⟨w33.heap.size, 0, none⟩) 2 [a, b] := HS.lay (l := [a, b]) (t := T_api_Hash) (new_blk w33 (.cells (hcells [a, b]).toArray T_api_Hash))
  clear_value w39
  have k1639 := k1633.trans k39 (fun _ _ h => h.elim)
  obtain ⟨e1, e2, e3⟩ := addX_yes (D := [⟨r, []⟩, ⟨a, [r]⟩, ⟨b, [r]⟩]) (P := [-1, 0, 0]) (h := c) (s := a) (l := [a, b]) (k3 hrc hab hac hbc).1 (by simp) (j := 1) (by simp [ids, pos]; exact fun e => absurd e.symm hra)
  rw [(k3 hrc hab hac hbc).2] at e2
  refine reach_AddI (hX33.same k39) (by simp) ((hT.same k).keep k1639 (fun e => by omega)) (fun e => by have := m3 _ e; omega) hb39 (by omega) c a fun w41 S4 F4 hX41 k41 hS4 hF4 => ⟨_, rfl, ?_⟩
  rw [e1]
  rw [e2, e3] at hX41
  replace hX41 : IsX w41 S4 F4 x (kD r a b c) kP := hX41
  refine Split.no rfl ?_
  have k1641 : Kept (fun q => w16.heap.size ≤ q) w16 w41 := k1639.trans k41 (fun q _ h => m3 q h)
  obtain ⟨q1, q2, q3⟩ := kCh hra hrb hrc hab hac hbc
  obtain ⟨_, _, _, hA4⟩ := kAnc hra hrb hrc hab hac hbc
  have kw41 : Kept Nil w w41 := k.trans k1641 (fun q hq e => by omega)
  have hX : ∀ {v : World}, Kept Nil w41 v → IsX v S4 F4 x (kD r a b c) kP := fun k => hX41.same k
  obtain ⟨c1, c2, c3, c4⟩ := box k1641 (fun _ h => h)
  obtain ⟨m, hV, _⟩ := hX (Kept.refl _ _)
  refine ⟨b.1, ⟨b.2.1, c3⟩, reach_Cover hV (by simp) b (fun w' hn _ => absurd (by simp [ids]) hn) fun A45 c45 w45 _ row45 k45 => ⟨A45, _, c45, 0, rfl, ?_⟩⟩
  rw [q3] at row45 ⊢
  intro w48
  have k48 : Kept Nil w45 w48 := (Kept.refl _ _).drew
  have row48 : HRow w48 w41.heap.size A45 1 c45 [c] := Row.keep row45 k48 (fun _ _ h => h)
  clear_value w48
  have k4148 := k45.trans k48 (fun _ _ h => h)
  have bx : ∀ {u : World}, Kept Nil w41 u → Cells u (⟨w1.heap.size, 0, none⟩ : Addr) a.1 ∧ Cells u (⟨w2.heap.size, 0, none⟩ : Addr) b.1 ∧ Cells u (⟨w3.heap.size, 0, none⟩ : Addr) c.1 := fun k => (box (k1641.trans k (fun _ _ h => h.elim)) (fun _ h => h)).2
  refine Split.yes rfl (Split.yes rfl (row48.hs.load (i := 0) (by omega) rfl ⟨c.1, ⟨c.2.1, (bx k4148).2.2⟩, ⟨c.2.ints, c.2.ints⟩, ?_⟩))
  rw [sameInts_eq]
  refine Split.yes (decide_eq_true rfl) ⟨b.1, ⟨b.2.1, (bx k4148).2.1⟩, c.1, ⟨c.2.1, (bx k4148).2.2⟩, reach_Before (hV.same k4148) (by simp) b c fun w55 t ht k55 => ⟨t, rfl, ?_⟩⟩
  have k4155 := k4148.trans k55 (fun _ _ h => h)
  refine Split.yes (ht.2 ((hA4 b).2 (.inr (.inl rfl)))) ⟨b.1, ⟨b.2.1, (bx k4155).2.1⟩, c.1, ⟨c.2.1, (bx k4155).2.2⟩, reach_Chain (hV.same k4155) b c fun w60 t2 ht2 k60 => ⟨t2, rfl, ?_⟩⟩
  have k4160 := k4155.trans k60 (fun _ _ h => h)
  have e2 : t2 = false := by
    cases t2 with
    | false => rfl
    | true => exact absurd (ht2.1 rfl) q2
  subst e2
  refine Split.yes rfl ⟨a.1, ⟨a.2.1, (bx k4160).1⟩, c.1, ⟨c.2.1, (bx k4160).2.2⟩, reach_Chain (hV.same k4160) a c fun w65 t3 ht3 k65 => ⟨t3, rfl, ?_⟩⟩
  rw [ht3.2 q1]
  exact hK w65 (kw41.trans (k4160.trans k65 (fun _ _ h => h)) (fun _ _ h => h))
end
end Go.Proofs.YtgfkpemnkmebkaaGreatDoor
/-
  same: both indexes say the same of who stands ahead of whom, on whose chain.
-/
namespace Go.Proofs.YtgfkpemnkmebkaaGreatDoor
open Go Go.Lite Go.RowKit

section
variable {w w' : World} {S F FR : Nat → Prop} {x r : Nat} {D : DG} {P : List Int} {m : XM} {K : Value → World → Prop}
theorem ChainL.len {h : HT} {l : List HT} (hc : ChainL D P h l) (H : Sel D P) : l.length ≤ D.length := by
  rcases hc with ⟨_, rfl⟩ | ⟨i, nd, ks, h1, _, h3, rfl⟩
  · exact Nat.zero_le _
  · have := h3.len H.par
    have := (List.getElem?_eq_some_iff.1 h1).1
    simp only [List.length_map]
    omega
end
end Go.Proofs.YtgfkpemnkmebkaaGreatDoor
/-
  Next and Fork of the index.
-/
namespace Go.Proofs.YtgfkpemnkmebkaaGreatDoor
open Go Go.Lite Go.RowKit
open Tr (Und ints)

/-! chains, plainly -/
section
variable {D : DG} {P : List Int}
theorem Up.down (hP : Tr.Par P) {i : Nat} {l : List Nat} (h : Up P i l) (hi : i < P.length) : l.Pairwise (· > ·) := by
  induction h with
  | root => simp
  | @step i j l hj hu ih =>
    have hji := (Tr.kids_lt hP (Tr.mem_kids.2 hj)).1
    have hjl : j < P.length := by omega
    rw [List.pairwise_cons]
    refine ⟨fun k hk => ?_, ih hjl⟩
    have := ((hu.mem hP hjl).1 hk).le hP
    omega
theorem Up.next {i : Nat} {l : List Nat} (h : Up P i l) (hP : Tr.Par P) : ∀ {q k j : Nat}, l[q]? = some k → P[k]? = some (j : Int) → l[q + 1]? = some j := by
  induction h with
  | root =>
    intro q k j h1 h2
    cases q with
    | zero =>
      simp at h1
      subst h1
      rw [hP.root] at h2
      simp only [Option.some.injEq] at h2
      omega
    | succ q => simp at h1
  | @step i j' l hj hu ih =>
    intro q k j h1 h2
    cases q with
    | zero =>
      simp at h1
      subst h1
      rw [hj] at h2
      simp only [Option.some.injEq] at h2
      have e : j' = j := by omega
      subst e
      exact hu.head
    | succ q => exact ih h1 h2
theorem Up.prev {i : Nat} {l : List Nat} (h : Up P i l) : ∀ {q k j : Nat}, l[q]? = some k → l[q + 1]? = some j → P[k]? = some (j : Int) := by
  induction h with
  | root => intro q k j h1 h2; simp at h2
  | @step i j' l hj hu ih =>
    intro q k j h1 h2
    cases q with
    | zero =>
      simp at h1
      subst h1
      have : l[0]? = some j := h2
      rw [hu.head] at this
      cases this
      exact hj
    | succ q => exact ih h1 h2
/-- s is the one on a chain ahead of a -/
def NextL (l : List HT) (a s : HT) : Prop := ∃ q : Nat, l[q + 1]? = some a ∧ l[q]? = some s
theorem ChainL.nodup {b : HT} {l : List HT} (W : WfD D) (H : Sel D P) (hc : ChainL D P b l) : l.Nodup := by
  rcases hc with ⟨_, rfl⟩ | ⟨i, nd, ks, h1, _, h3, rfl⟩
  · simp
  · have hil : i < P.length := by rw [H.len]; exact (List.getElem?_eq_some_iff.1 h1).1
    have hd := h3.down H.par hil
    rw [List.nodup_iff_pairwise_ne, List.pairwise_map]
    refine List.Pairwise.imp_of_mem (fun {x y} hx hy hgt e => ?_) hd
    have gx := h3.lt H.par hil x hx
    have gy := h3.lt H.par hil y hy
    rw [H.len] at gx gy
    obtain ⟨nx, hnx⟩ : ∃ nd, D[x]? = some nd := ⟨_, List.getElem?_eq_getElem gx⟩
    obtain ⟨ny, hny⟩ : ∃ nd, D[y]? = some nd := ⟨_, List.getElem?_eq_getElem gy⟩
    rw [idAt_get hnx, idAt_get hny] at e
    have := W.inj hnx hny e
    omega
theorem nodup_at {l : List HT} (h : l.Nodup) {i j : Nat} {a : HT} (hi : l[i]? = some a) (hj : l[j]? = some a) : i = j := by
  have h1 := (List.getElem?_eq_some_iff.1 hi)
  have h2 := (List.getElem?_eq_some_iff.1 hj)
  exact (List.getElem_inj h).1 (h1.2.trans h2.2.symm)
theorem NextL.one {l : List HT} {a s s' : HT} (hn : l.Nodup) (h : NextL l a s) (h' : NextL l a s') : s = s' := by
  obtain ⟨q, h1, h2⟩ := h
  obtain ⟨q', g1, g2⟩ := h'
  have : q = q' := by have := nodup_at hn h1 g1; omega
  subst this
  rw [h2] at g2
  cases g2
  rfl
/-- .. it is the one whose selected parent is a -/
theorem next_sel (W : WfD D) (H : Sel D P) {b : HT} {l : List HT} (hc : ChainL D P b l) {a s : HT} : NextL l a s ↔ SelOf D P a s ∧ Ch D P s b := by
  rcases hc with ⟨h0, rfl⟩ | ⟨i, nd, ks, h1, rfl, h3, rfl⟩
  · constructor
    · rintro ⟨q, h, _⟩; simp at h
    · exact fun h => absurd h.2.mem.2 h0
  · have hil : i < P.length := by rw [H.len]; exact (List.getElem?_eq_some_iff.1 h1).1
    have hcl : ChainL D P nd.id (ks.map (idAt D)) := .inr ⟨i, nd, ks, h1, rfl, h3, rfl⟩
    constructor
    · rintro ⟨q, g1, g2⟩
      refine ⟨?_, (hcl.mem W H).1 (List.mem_of_getElem? g2)⟩
      rw [List.getElem?_map] at g1 g2
      obtain ⟨j, hj, rfl⟩ := Option.map_eq_some_iff.1 g1
      obtain ⟨k, hk, rfl⟩ := Option.map_eq_some_iff.1 g2
      have hp := h3.prev hk hj
      have gk := h3.lt H.par hil k (List.mem_of_getElem? hk)
      have gj := h3.lt H.par hil j (List.mem_of_getElem? hj)
      rw [H.len] at gk gj
      obtain ⟨nk, hnk⟩ : ∃ nd, D[k]? = some nd := ⟨_, List.getElem?_eq_getElem gk⟩
      obtain ⟨nj, hnj⟩ : ∃ nd, D[j]? = some nd := ⟨_, List.getElem?_eq_getElem gj⟩
      exact ⟨k, j, nk, nj, hnk, (idAt_get hnk).symm, hp, hnj, (idAt_get hnj).symm⟩
    · rintro ⟨⟨k, j, nk, nj, g1, rfl, g3, g4, rfl⟩, hch⟩
      have hm := (hcl.mem W H).2 hch
      obtain ⟨q, hq⟩ := List.mem_iff_getElem?.1 hm
      have hq' := hq
      rw [List.getElem?_map] at hq'
      obtain ⟨k', hk', e⟩ := Option.map_eq_some_iff.1 hq'
      have gk := h3.lt H.par hil k' (List.mem_of_getElem? hk')
      rw [H.len] at gk
      obtain ⟨nk', hnk'⟩ : ∃ nd, D[k']? = some nd := ⟨_, List.getElem?_eq_getElem gk⟩
      rw [idAt_get hnk'] at e
      have := W.inj hnk' g1 e
      subst this
      refine ⟨q, ?_, hq⟩
      rw [List.getElem?_map, h3.next H.par hk' g3, Option.map_some, idAt_get g4]
theorem next_ex (W : WfD D) (H : Sel D P) {a b : HT} {l : List HT} (hc : ChainL D P b l) : (∃ s, NextL l a s) ↔ a ≠ b ∧ Ch D P a b := by
  have hm : ∀ {x}, x ∈ l ↔ Ch D P x b := hc.mem W H
  constructor
  · rintro ⟨s, hs⟩
    obtain ⟨h1, h2⟩ := (next_sel W H hc).1 hs
    refine ⟨fun e => ?_, (hc.mem W H).1 (let ⟨_, h1, _⟩ := hs; List.mem_of_getElem? h1)⟩
    subst e
    have ha := Anc.one (h1.par H)
    rcases h2.anc W H with e | e
    · rw [e] at ha; exact Anc.irrefl W _ ha
    · exact Anc.irrefl W _ (ha.trans e)
  · rintro ⟨hne, hch⟩
    obtain ⟨q, hq⟩ := List.mem_iff_getElem?.1 (hm.2 hch)
    cases q with
    | zero =>
      rcases hc with ⟨_, rfl⟩ | ⟨i, nd, ks, h1, rfl, h3, rfl⟩
      · simp at hq
      · rw [List.getElem?_map, h3.head, Option.map_some, idAt_get h1] at hq
        cases hq
        exact absurd rfl hne
    | succ q =>
      obtain ⟨s, hs⟩ : ∃ s, l[q]? = some s := ⟨_, List.getElem?_eq_getElem (by have := (List.getElem?_eq_some_iff.1 hq).1; omega)⟩
      exact ⟨s, q, hq, hs⟩
/-- the first one of a list that is on b's chain -/
def FirstCh (D : DG) (P : List Int) (l : List HT) (b s : HT) : Prop := ∃ q : Nat, l[q]? = some s ∧ Ch D P s b ∧ ∀ y ∈ l.take q, ¬ Ch D P y b
theorem FirstCh.one {l : List HT} {b s s' : HT} (h : FirstCh D P l b s) (h' : FirstCh D P l b s') : s = s' := by
  obtain ⟨q, h1, h2, h3⟩ := h
  obtain ⟨q', g1, g2, g3⟩ := h'
  have key : ∀ {q q' : Nat} {s s' : HT}, l[q]? = some s → Ch D P s b → (∀ y ∈ l.take q', ¬ Ch D P y b) → ¬ q < q' := fun h1 h2 h3 hlt =>
    h3 _ (List.mem_of_getElem? (i := _) (by rw [List.getElem?_take, if_pos hlt]; exact h1)) h2
  have e1 := key (s' := s') h1 h2 g3
  have e2 := key (s' := s) g1 g2 h3
  have : q = q' := by omega
  subst this
  rw [h1] at g1
  cases g1
  rfl
theorem root_ch (W : WfD D) (H : Sel D P) {a : HT} (ha : a ∈ ids D) {nd0 : DN} (h0 : D[0]? = some nd0) : Ch D P nd0.id a := by
  obtain ⟨nd, hnd, rfl⟩ := ids_mem.1 ha
  obtain ⟨i, hi⟩ := List.mem_iff_getElem?.1 hnd
  exact ⟨i, 0, nd, nd0, hi, rfl, h0, rfl, Und.root H.par i (by rw [H.len]; exact (List.getElem?_eq_some_iff.1 hi).1)⟩
/-- some one is on both chains -/
theorem some_ch (W : WfD D) (H : Sel D P) {a b : HT} (ha : a ∈ ids D) (hb : b ∈ ids D) {l : List HT} (hc : ChainL D P a l) : ¬ ∀ y ∈ l, ¬ Ch D P y b := fun h => by
  obtain ⟨nd0, h0⟩ : ∃ nd, D[0]? = some nd := ⟨_, List.getElem?_eq_getElem W.pos⟩
  exact h _ ((hc.mem W H).2 (root_ch W H ha h0)) (root_ch W H hb h0)
end

/-! the program's -/
section
variable {w w' : World} {F : Nat → Prop} {x : Nat} {D : DG} {P : List Int} {m : XM} {K : Value → World → Prop}
/-- the first child under which one stands -/
theorem index_under (h : XV w F x D P m) {xb bb i : Nat} {nd : DN} (hi : D[i]? = some nd) (hg : w.heap[xb]? = some (.cells #[.pointer (some ⟨x, 0, none⟩)] T_p_reach_Index (0, 0))) (hb : w.heap[bb]? = some (.cells nd.id.1 T_api_Hash (0, 0)))
    {A : Option Addr} {n cx B : Nat} {l : List Nat} (hl : Row w B T_int 1 A n cx (ints l)) (hn : n ≤ 100000) (hlt : ∀ j ∈ l, j < D.length) (hex : ∃ j ∈ l, Und P i j)
    (hK : ∀ w' (q j : Nat), l[q]? = some j → Und P i j → Kept Nil w w' → K (.int .i64 (q : Int)) w') :
    Ret Tryz.prog slices_IndexFunc_of_int.id #[.slice A n cx, .func (.func reach_Index_Next_fn1.id) #[] #[.pointer (some ⟨xb, 0, none⟩), .pointer (some ⟨bb, 0, none⟩)]] w K := by
  have hlen : l.length = n := by have := Row.len hl; simp [ints] at this; omega
  have htl := h.tlen
  refine slices_IndexFunc_of_int__reach_Index_Next_fn1.of ?_
  refine slices_IndexFunc_of_int__reach_Index_Next_fn1.loop1 (I := fun s w' => ∃ q : Nat, s = (0, (q : Int)) ∧ q ≤ n ∧ (∀ j ∈ l.take q, ¬ Und P i j) ∧ Kept Nil w w') (μ := fun s _ => ((n : Int) - s.2).toNat) (s := (0, 0)) ⟨0, rfl, Nat.zero_le _, by simp, Kept.refl _ _⟩ ?_
  rintro s w' ⟨q, rfl, hq, hall, kw⟩
  refine Split.dec (fun hql0 => ?_) (fun hge => ?_)
  · simp only at hql0
    have hql : q < n := by omega
    obtain ⟨j, hj⟩ : ∃ j, l[q]? = some j := ⟨_, List.getElem?_eq_getElem (by omega)⟩
    have hjD := hlt j (List.mem_of_getElem? hj)
    obtain ⟨b, rfl⟩ := Row.some hl (by omega)
    refine ⟨⟨by omega, by omega⟩, Is.mk rfl ⟨(j : Int), ?_, ?_⟩⟩
    · rw [Int.toNat_natCast]
      exact kw.cell (Row.cells hl (q * 1) _ (by rw [Nat.mul_one]; simp [ints, hj])) (fun h => h)
    refine reach_Index_Next_fn1.of ?_
    unfold reach_Index_Next_fn1.W
    intro w4
    have k4 : Kept Nil w' w4 := (Kept.refl _ _).drew
    clear_value w4
    have kw4 := kw.trans k4 (fun _ _ h => h)
    have h4 := h.same kw4
    have hg4 := kw4.heap hg (fun h => h)
    have hb4 := kw4.heap hb (fun h => h)
    have lk := h4.at_.look1 nd.id
    rw [h.W.pos_eq hi] at lk
    refine ⟨some ⟨x, 0, none⟩, by rw [cell_blk hg4]; rfl, Is.mk rfl ⟨_, h4.c1, some ⟨x, 0, none⟩, by rw [cell_blk hg4]; rfl, Is.mk rfl ⟨_, h4.c2, nd.id.1, ⟨nd.id.2.1, Cells.blk hb4⟩, _, lk, ?_⟩⟩⟩
    obtain ⟨id, hid⟩ := Tr.get_of_lt (T := m.T) (i := i) (by rw [htl]; exact (List.getElem?_eq_some_iff.1 hi).1)
    obtain ⟨kd, hkd⟩ := Tr.get_of_lt (T := m.T) (i := j) (by omega)
    refine Tr.tree_Under h4.T hid hkd fun w14 k14 => ⟨_, rfl, _, rfl, ?_⟩
    have kw14 := kw4.trans k14 (fun _ _ h => h)
    have hu := h.und hid hkd
    by_cases hc : kd.lo ≤ id.lo ∧ id.hi ≤ kd.hi
    · exact Split.yes (decide_eq_true hc) (hK w14 q j hj (hu.1 (decide_eq_true hc)) kw14)
    · refine Split.no (decide_eq_false hc) ?_
      simp only
      rw [wrapP (n := (q : Int)) (by omega) (by omega)]
      refine ⟨(0, (q : Int) + 1), rfl, ⟨q + 1, rfl, hql, fun y hy => ?_, kw14⟩, by simp only; omega⟩
      rw [List.take_add_one, hj] at hy
      simp only [Option.toList_some, List.mem_append, List.mem_singleton] at hy
      rcases hy with hy | rfl
      · exact hall y hy
      · exact fun e => hc (of_decide_eq_true (hu.2 e))
  · simp only at hge
    rw [List.take_of_length_le (by omega)] at hall
    obtain ⟨j, hj, hu⟩ := hex
    exact absurd hu (hall j hj)
/-- Next -/
theorem reach_Next_ok (h : XV w F x D P m) (hD : D.length ≤ 5000) (a b : HT) {l : List HT} (hc : ChainL D P b l) (hno : ∀ w', (∀ s, ¬ NextL l a s) → Kept Nil w w' → K (.tuple #[.agg hnull.1, .int .i64 6]) w')
    (hyes : ∀ w' s, NextL l a s → Kept Nil w w' → K (.tuple #[.agg s.1, .int .i64 0]) w') :
    Ret Tryz.prog reach_Index_Next.id #[.pointer (some ⟨x, 0, none⟩), .agg a.1, .agg b.1] w K := by
  have W := h.W
  have H := h.sel
  refine reach_Index_Next.of ?_
  unfold reach_Index_Next.W
  intro w4 w5 w6 w7
  have k4 : Kept Nil w w4 := (Kept.refl _ _).alloc _
  have hx4 : w4.heap[w.heap.size]? = some (.cells #[.pointer (some ⟨x, 0, none⟩)] T_p_reach_Index (0, 0)) := new_blk w _
  have k5 : Kept Nil w4 w5 := (Kept.refl _ _).alloc _
  have ha5 : w5.heap[w4.heap.size]? = some (.cells a.1 T_api_Hash (0, 0)) := new_blk w4 _
  have k6 : Kept Nil w5 w6 := (Kept.refl _ _).alloc _
  have hb6 : w6.heap[w5.heap.size]? = some (.cells b.1 T_api_Hash (0, 0)) := new_blk w5 _
  have k7 : Kept Nil w6 w7 := (Kept.refl _ _).alloc _
  have hr7 : w7.heap[w6.heap.size]? = some (.cells hnull.1 T_api_Hash (0, 0)) := new_blk w6 _
  clear_value w7
  have hb7 := k7.heap hb6 (fun h => h)
  have ha7 := k7.heap (k6.heap ha5 (fun h => h)) (fun h => h)
  have hx7 := k7.heap (k6.heap (k5.heap hx4 (fun h => h)) (fun h => h)) (fun h => h)
  have k07 := ((k4.trans k5 (fun _ _ h => h)).trans k6 (fun _ _ h => h)).trans k7 (fun _ _ h => h)
  have s4 := k4.size
  have s5 := k5.size
  have s6 := k6.size
  clear_value w6 w5 w4
  -- the result is written
  have fin : ∀ {v : World} (s : HT) (e : Int), Kept Nil w7 v → (∀ w', Kept Nil w w' → K (.tuple #[.agg s.1, .int .i64 e]) w') →
      (s.1.size = 32 ∧ (∀ c ∈ s.1.toList, c.oneCell' = true) ∧ ∀ j, j < 32 → Wr v ((⟨w6.heap.size, 0, none⟩ : Addr).add j)) ∧ ∃ r : Array Value, (r.size = 32 ∧ Cells (setCells v (⟨w6.heap.size, 0, none⟩ : Addr) s.1.toList 0) (⟨w6.heap.size, 0, none⟩ : Addr) r) ∧ K (.tuple #[.agg r, .int .i64 e]) (setCells v (⟨w6.heap.size, 0, none⟩ : Addr) s.1.toList 0) := fun s e kv hk => by
    obtain ⟨t1, t2, t3⟩ := hash_set s (kv.heap hr7 (fun h => h)) rfl
    exact ⟨t1, s.1, ⟨s.2.1, Cells.blk t2⟩, hk _ ((k07.trans kv (fun _ _ h => h)).trans t3 (fun k hk e => by omega))⟩
  have hfin6 : ∀ {v : World}, (¬ (a ≠ b ∧ Ch D P a b)) → Kept Nil w7 v → _ := fun {v} hn kv => fin (v := v) hnull 6 kv (fun w' k => hno w' (fun s hs => hn ((next_ex W H hc).1 ⟨s, hs⟩)) k)
  refine ⟨some ⟨x, 0, none⟩, by rw [cell_blk hx7]; rfl, reach_there (h.same k07) ⟨true, rfl, Split.no rfl ?_⟩⟩
  refine ⟨a.1, ⟨a.2.1, Cells.blk ha7⟩, b.1, ⟨b.2.1, Cells.blk hb7⟩, ⟨a.2.ints, b.2.ints⟩, ?_⟩
  rw [sameInts_eq]
  by_cases hab : a = b
  · exact Split.yes (decide_eq_true hab) (hfin6 (fun e => e.1 hab) (Kept.refl _ _))
  refine Split.no (decide_eq_false hab) ⟨some ⟨x, 0, none⟩, by rw [cell_blk hx7]; rfl, a.1, ⟨a.2.1, Cells.blk ha7⟩, b.1, ⟨b.2.1, Cells.blk hb7⟩, ?_⟩
  refine reach_Chain (h.same k07) a b fun w26 r hr k26 => ⟨r, rfl, ?_⟩
  have k026 := k07.trans k26 (fun _ _ h => h)
  cases r with
  | false => exact Split.yes rfl (hfin6 (fun e => by have := hr.2 e.2; cases this) k26)
  | true =>
    refine Split.no rfl ?_
    have hch := hr.1 rfl
    intro w32
    have k32 : Kept Nil w26 w32 := (Kept.refl _ _).drew
    clear_value w32
    have k732 := k26.trans k32 (fun _ _ h => h)
    have k032 := k07.trans k732 (fun _ _ h => h)
    have h32 := h.same k032
    have hx32 := k732.heap hx7 (fun h => h)
    obtain ⟨na, hna, ea⟩ := ids_mem.1 hch.mem.1
    obtain ⟨nb, hnb, eb⟩ := ids_mem.1 hch.mem.2
    obtain ⟨ia, hia⟩ := List.mem_iff_getElem?.1 hna
    obtain ⟨ib, hib⟩ := List.mem_iff_getElem?.1 hnb
    have lk := h32.at_.look1 a
    rw [← ea, W.pos_eq hia] at lk
    rw [ea] at lk
    refine ⟨some ⟨x, 0, none⟩, by rw [cell_blk hx32]; rfl, Is.mk rfl ⟨_, h32.c1, some ⟨x, 0, none⟩, by rw [cell_blk hx32]; rfl, Is.mk rfl ⟨_, h32.c2, a.1, ⟨a.2.1, Cells.blk (k732.heap ha7 (fun h => h))⟩, _, lk, ?_⟩⟩⟩
    have htl := h.tlen
    have hial := (List.getElem?_eq_some_iff.1 hia).1
    obtain ⟨td, htd⟩ := Tr.get_of_lt (T := m.T) (i := ia) (by omega)
    have hkids : td.ch = Tr.kids P ia := by rw [h.fine.ch ia td htd, h.pars]
    have hkl : (Tr.kids P ia).length ≤ D.length := by
      have : (Tr.kids P ia).length ≤ P.length := by
        unfold Tr.kids
        exact Nat.le_trans (List.length_filter_le _ _) (by rw [List.length_range]; exact Nat.le_refl _)
      rw [h.sel.len] at this
      exact this
    refine Tr.tree_Children h32.T htd (by rw [hkids]; omega) fun A42 c42 w42 row42 k42 => ⟨A42, _, c42, 0, rfl, ?_⟩
    rw [hkids] at row42 ⊢
    have k042 := k032.trans k42 (fun _ _ h => h)
    have k742 := k732.trans k42 (fun _ _ h => h)
    have hund : Und P ib ia := by
      obtain ⟨i', k', ni, nk, g1, g2, g3, g4, g5⟩ := hch
      have e1 := W.inj g1 hib (by rw [g2, eb])
      have e2 := W.inj g3 hia (by rw [g4, ea])
      rw [← e1, ← e2]
      exact g5
    have hne : ib ≠ ia := fun e => by
      subst e
      rw [hia] at hib
      cases hib
      exact hab (by rw [← ea, ← eb])
    have hx42 := k742.heap hx7 (fun h => h)
    have hb42 : w42.heap[w5.heap.size]? = some (.cells nb.id.1 T_api_Hash (0, 0)) := by rw [eb]; exact k742.heap hb7 (fun h => h)
    refine index_under (h.same k042) hib hx42 hb42 row42 (by omega) (fun j hj => by
        have := (Tr.kids_lt H.par hj).2
        rw [H.len] at this
        exact this) (let ⟨c, h1, h2⟩ := Und.child hund hne; ⟨c, h1, h2⟩) fun w46 q j hj hu k46 => ⟨_, rfl, ?_⟩
    intro w48
    have k48 : Kept Nil w46 w48 := (Kept.refl _ _).drew
    clear_value w48
    have k4248 := k46.trans k48 (fun _ _ h => h)
    have k748 := k742.trans k4248 (fun _ _ h => h)
    have k048 := k07.trans k748 (fun _ _ h => h)
    have h48 := h.same k048
    have hjk : j ∈ Tr.kids P ia := List.mem_of_getElem? hj
    have hPj := Tr.mem_kids.1 hjk
    have hjD : j < D.length := by have := (List.getElem?_eq_some_iff.1 hPj).1; rw [H.len] at this; exact this
    obtain ⟨nj, hnj⟩ : ∃ nd, D[j]? = some nd := ⟨_, List.getElem?_eq_getElem hjD⟩
    obtain ⟨bA, rfl⟩ := Row.some row42 (by have := (List.getElem?_eq_some_iff.1 hj).1; omega)
    refine ⟨some ⟨x, 0, none⟩, by rw [cell_blk (k748.heap hx7 (fun h => h))]; rfl, Is.mk rfl ⟨_, _, _, h48.c3, ⟨by omega, by have := (List.getElem?_eq_some_iff.1 hj).1; omega⟩, Is.mk rfl ⟨(j : Int), ?_, ⟨by omega, by omega⟩, Is.mk rfl ⟨nj.id.1, ⟨nj.id.2.1, by rw [Int.toNat_natCast]; exact h48.row_at hnj⟩, ?_⟩⟩⟩⟩
    · rw [Int.toNat_natCast]
      exact k4248.cell (Row.cells row42 (q * 1) _ (by rw [Nat.mul_one]; simp [ints, hj])) (fun h => h)
    · refine fin nj.id 0 k748 fun w' k => hyes w' nj.id ((next_sel W H hc).2 ⟨?_, ?_⟩) k
      · exact ⟨j, ia, nj, na, hnj, rfl, hPj, hia, ea⟩
      · exact ⟨ib, j, nb, nj, hib, eb, hnj, rfl, hu⟩
/-- Fork -/
theorem reach_Fork_ok (h : XV w F x D P m) (hD : D.length ≤ 5000) (a b : HT) (hno : ∀ w', ¬ (a ∈ ids D ∧ b ∈ ids D) → Kept Nil w w' → K (.tuple #[.agg hnull.1, .int .i64 6]) w')
    (hyes : ∀ w' l s, a ∈ ids D → b ∈ ids D → ChainL D P a l → FirstCh D P l b s → Kept Nil w w' → K (.tuple #[.agg s.1, .int .i64 0]) w') :
    Ret Tryz.prog reach_Index_Fork.id #[.pointer (some ⟨x, 0, none⟩), .agg a.1, .agg b.1] w K := by
  have W := h.W
  have H := h.sel
  refine reach_Index_Fork.of ?_
  unfold reach_Index_Fork.W
  intro w4 w5 w6 w7 w8
  have k4 : Kept Nil w w4 := (Kept.refl _ _).alloc _
  have hx4 : w4.heap[w.heap.size]? = some (.cells #[.pointer (some ⟨x, 0, none⟩)] T_p_reach_Index (0, 0)) := new_blk w _
  have k5 : Kept Nil w4 w5 := (Kept.refl _ _).alloc _
  have ha5 : w5.heap[w4.heap.size]? = some (.cells a.1 T_api_Hash (0, 0)) := new_blk w4 _
  have k6 : Kept Nil w5 w6 := (Kept.refl _ _).alloc _
  have hb6 : w6.heap[w5.heap.size]? = some (.cells b.1 T_api_Hash (0, 0)) := new_blk w5 _
  have k7 : Kept Nil w6 w7 := (Kept.refl _ _).alloc _
  have hr7 : w7.heap[w6.heap.size]? = some (.cells hnull.1 T_api_Hash (0, 0)) := new_blk w6 _
  have k8 : Kept Nil w7 w8 := (Kept.refl _ _).alloc _
  have he8 : w8.heap[w7.heap.size]? = some (.cells #[.int .i64 0] T_api_Errno (0, 0)) := new_blk w7 _
  clear_value w8
  have hr8 := k8.heap hr7 (fun h => h)
  have hb8 := k8.heap (k7.heap hb6 (fun h => h)) (fun h => h)
  have ha8 := k8.heap (k7.heap (k6.heap ha5 (fun h => h)) (fun h => h)) (fun h => h)
  have hx8 := k8.heap (k7.heap (k6.heap (k5.heap hx4 (fun h => h)) (fun h => h)) (fun h => h)) (fun h => h)
  have k08 := (((k4.trans k5 (fun _ _ h => h)).trans k6 (fun _ _ h => h)).trans k7 (fun _ _ h => h)).trans k8 (fun _ _ h => h)
  have s4 := k4.size
  have s5 := k5.size
  have s6 := k6.size
  have l4 := lt_blk ha5
  have l6 := lt_blk hr7
  clear_value w7 w6 w5 w4
  have l8 := lt_blk he8
  -- the results are written
  have fin : ∀ {v : World} (s : HT) (e : Int), Kept (fun k => k = w6.heap.size ∨ k = w7.heap.size) w8 v → (∃ z, v.heap[w6.heap.size]? = some (.cells z T_api_Hash (0, 0)) ∧ z.size = 32) → (∃ i, v.heap[w7.heap.size]? = some (.cells #[.int .i64 i] T_api_Errno (0, 0))) →
      (s.1.size = 32 ∧ (∀ c ∈ s.1.toList, c.oneCell' = true) ∧ ∀ j, j < 32 → Wr v ((⟨w6.heap.size, 0, none⟩ : Addr).add j)) ∧ Wr (setCells v (⟨w6.heap.size, 0, none⟩ : Addr) s.1.toList 0) (⟨w7.heap.size, 0, none⟩ : Addr) ∧
      ∃ u : World, u = (setCells v (⟨w6.heap.size, 0, none⟩ : Addr) s.1.toList 0).setCell (⟨w7.heap.size, 0, none⟩ : Addr) (.int .i64 e) ∧ u.heap[w6.heap.size]? = some (.cells s.1 T_api_Hash (0, 0)) ∧ u.heap[w7.heap.size]? = some (.cells #[.int .i64 e] T_api_Errno (0, 0)) ∧ Kept (fun k => k = w6.heap.size ∨ k = w7.heap.size) v u := fun s e kv ⟨z, hz, hz2⟩ ⟨i, hi⟩ => by
    obtain ⟨t1, t2, t3⟩ := hash_set s hz hz2
    have hi2 := t3.heap hi (by omega)
    refine ⟨t1, wr_blk hi2 (by simp), _, rfl, ?_, ?_, ?_⟩
    · rw [set_other (by omega)]
      exact t2
    · rw [set_blk hi2]
      rfl
    · exact (t3.mono (fun _ _ h => .inl h)).trans (Kept.setCell (S := fun k => k = w6.heap.size ∨ k = w7.heap.size) (Kept.refl _ _) (p := ⟨w7.heap.size, 0, none⟩) (fun _ => .inr rfl) _) (fun _ _ h => h)
  have kS : ∀ {v : World}, Kept (fun k => k = w6.heap.size ∨ k = w7.heap.size) w8 v → Kept Nil w v := fun k => k08.trans k (fun k hk e => by omega)
  have nilS : ∀ {u v : World}, Kept Nil u v → Kept (fun k => k = w6.heap.size ∨ k = w7.heap.size) u v := fun k => k.mono fun _ _ h => h.elim
  have old : ∀ {v : World}, Kept Nil w8 v → (∃ z, v.heap[w6.heap.size]? = some (.cells z T_api_Hash (0, 0)) ∧ z.size = 32) ∧ (∃ i, v.heap[w7.heap.size]? = some (.cells #[.int .i64 i] T_api_Errno (0, 0))) := fun k => ⟨⟨_, k.heap hr8 (fun h => h), rfl⟩, _, k.heap he8 (fun h => h)⟩
  refine ⟨some ⟨x, 0, none⟩, by rw [cell_blk hx8]; rfl, reach_there (h.same k08) ⟨true, rfl, Split.no rfl ?_⟩⟩
  refine ⟨some ⟨x, 0, none⟩, by rw [cell_blk hx8]; rfl, a.1, ⟨a.2.1, Cells.blk ha8⟩, b.1, ⟨b.2.1, Cells.blk hb8⟩, a.2.1, b.2.1, ?_⟩
  intro w22
  have k22 : Kept Nil w8 w22 := (Kept.refl _ _).alloc _
  have hx22 : HS w22 (some ⟨w8.heap.size, 0, none⟩) 2 [a, b] := HS.lay (l := [a, b]) (t := T_api_Hash) (by rw [← hcells2 a b]; exact new_blk w8 _)
  clear_value w22
  refine reach_has (h.same (k08.trans k22 (fun _ _ h => h))) hx22 (by omega) fun w24 k24 => ⟨_, rfl, ?_⟩
  have k824 := k22.trans k24 (fun _ _ h => h)
  have k024 := k08.trans k824 (fun _ _ h => h)
  by_cases hall : ∀ p ∈ [a, b], p ∈ ids D
  · refine Split.no (by rw [decide_eq_true hall]; rfl) ?_
    have hma : a ∈ ids D := hall a (by simp)
    have hmb : b ∈ ids D := hall b (by simp)
    obtain ⟨l, hc⟩ := ChainL.ex H a
    refine ⟨some ⟨x, 0, none⟩, by rw [cell_blk (k824.heap hx8 (fun h => h))]; rfl, a.1, ⟨a.2.1, Cells.blk (k824.heap ha8 (fun h => h))⟩, ?_⟩
    refine reach_Up_ok a fun w35 pb qb k35 hp35 hq35 hpb hqb => ⟨_, rfl, ?_⟩
    have k835 := k824.trans k35 (fun _ _ h => h)
    have s835 := k835.size
    have s824 := k824.size
    let fnv : Value := .func (.func reach_Index_Up_fn1.id) #[] #[.pointer (some ⟨pb, 0, none⟩), .pointer (some ⟨qb, 0, none⟩)]
    let ρ0 : Env := [(3, .pointer (some ⟨w.heap.size, 0, none⟩)), (5, .pointer (some ⟨w5.heap.size, 0, none⟩)), (6, .pointer (some ⟨w6.heap.size, 0, none⟩)), (7, .pointer (some ⟨w7.heap.size, 0, none⟩)), (24, fnv)]
    let J : Nat → World → Prop := fun j u => Kept Nil w35 u ∧ j ≤ l.length ∧ ∀ y ∈ l.take j, ¬ Ch D P y b
    let Jd : Code → World → Prop := fun e u => e = .ret ∧ Kept (fun k => k = w6.heap.size ∨ k = w7.heap.size) w35 u ∧ ∃ s, FirstCh D P l b s ∧ u.heap[w6.heap.size]? = some (.cells s.1 T_api_Hash (0, 0)) ∧ u.heap[w7.heap.size]? = some (.cells #[.int .i64 0] T_api_Errno (0, 0))
    have k0J : ∀ {u : World}, Kept Nil w35 u → Kept Nil w u := fun k => k08.trans (k835.trans k (fun _ _ h => h)) (fun _ _ h => h)
    change Holds none [] Tryz.prog _ _ _ ρ0 w35
    refine range_iter (n := 36) (ρ := ρ0) (ρ0 := ρ0) ng mix reach_Index_Fork.k (t := 24) (ps := #[25]) (by kernel_rfl) (by decide) rfl reach_Index_Up_fn1.at_ rfl (.inl rfl) (fun i x hi hx => hx) rfl encH l (fun _ => rfl) (fun q hq => by
        have e49 : q = 25 := by simpa using hq
        subst e49
        exact ⟨by decide, by decide⟩) (up_iter (F := F) (x := x) (m := m) (pb := pb) (qb := qb) hc (by omega)) J Jd ?_ ?_ (fun j u hJ => ⟨h.same (k0J hJ.1), hJ.1.heap hp35 (fun h => h), hJ.1.heap hq35 (fun h => h)⟩) ?_ ?_ ?_ ?_ ?_
    · rintro j u1 u2 R hlv ⟨h1, h2, h3⟩ hk'
      exact ⟨h1.trans hk' (fun k hk e => by omega), h2, h3⟩
    · rintro e u1 u2 R hlv ⟨h1, h2, s, h3, h4, h5⟩ hk'
      exact ⟨h1, h2.trans hk' (fun k hk e => by omega), s, h3, hk'.heap h4 (by omega), hk'.heap h5 (by omega)⟩
    · intro R
      exact ⟨(((Kept.refl _ _).alloc _).alloc _), Nat.zero_le _, by simp⟩
    · rintro j z u1 R hz ⟨h1, h2, h3⟩ hlv
      have e7 : putAll ρ0 ((#[25] : Array Nat).toList.zip (encH z)) = [(3, .pointer (some ⟨w.heap.size, 0, none⟩)), (5, .pointer (some ⟨w5.heap.size, 0, none⟩)), (6, .pointer (some ⟨w6.heap.size, 0, none⟩)), (7, .pointer (some ⟨w7.heap.size, 0, none⟩)), (24, fnv), (25, .agg z.1)] := rfl
      rw [e7, reach_Index_Fork.a1]
      have hjl := (List.getElem?_eq_some_iff.1 hz).1
      unfold reach_Index_Fork.A1
      intro w43
      obtain ⟨hwr, hbx, hkx⟩ := box_set (w := u1) (z := hnull.1) (cs := z.1) (t := T_api_Hash) (by rw [z.2.1]; rfl)
      refine ⟨⟨z.2.1, z.2.one, fun j hj => hwr j (by rw [z.2.1]; exact hj)⟩, ?_⟩
      intro w46
      replace hbx : w46.heap[u1.heap.size]? = some (.cells z.1 T_api_Hash (0, 0)) := hbx
      replace hkx : Kept Nil u1 w46 := hkx
      clear_value w46
      have hl88 := hlv.keep hkx (fun h => h) (fun h => h)
      refine ⟨hl88, fun w2 R2 hk2 hl2 => ?_⟩
      have hb2 := hk2.heap hbx (ne_loop hbx hl88.loop)
      have k352 : Kept Nil w35 w2 := (h1.trans hkx (fun _ _ h => h)).trans hk2 (fun k hk e => by omega)
      have k82 := k835.trans k352 (fun _ _ h => h)
      rw [reach_Index_Fork.y1]
      unfold reach_Index_Fork.Y1
      refine ⟨some ⟨x, 0, none⟩, by rw [cell_blk (k82.heap hx8 (fun h => h))]; rfl, z.1, ⟨z.2.1, Cells.blk hb2⟩, b.1, ⟨b.2.1, Cells.blk (k82.heap hb8 (fun h => h))⟩, ?_⟩
      refine reach_Chain (h.same (k08.trans k82 (fun _ _ h => h))) z b fun w56 r hr k56 => ⟨r, rfl, ?_⟩
      have hl56 := hl2.keep k56 (fun h => h) (fun h => h)
      have k3556 := k352.trans k56 (fun _ _ h => h)
      cases r with
      | true =>
        refine Split.yes rfl ⟨z.1, ⟨z.2.1, Cells.blk (k56.heap hb2 (fun h => h))⟩, ?_⟩
        obtain ⟨o1, o2⟩ := old (k835.trans k3556 (fun _ _ h => h))
        obtain ⟨t1, t2, u, hu, u1', u2, u3⟩ := fin z 0 (nilS (k835.trans k3556 (fun _ _ h => h))) o1 o2
        refine ⟨t1, ?_⟩
        intro w61
        refine ⟨t2, ?_⟩
        intro w62
        have e62 : w62 = u := hu.symm
        rw [e62]
        refine ⟨hl56.keep u3 (fun e => by omega) (fun e => by omega), rfl, (nilS k3556).trans u3 (fun _ _ h => h), z, ⟨j, hz, hr.1 rfl, h3⟩, u1', u2⟩
      | false =>
        refine Split.no rfl ⟨hl56, k3556, hjl, fun y hy => ?_⟩
        rcases (mem_take_succ hz).1 hy with hy | rfl
        · exact h3 y hy
        · exact fun e => by have := hr.2 e; cases this
    · rintro u1 R ⟨h1, h2, h3⟩ hlv
      rw [List.take_of_length_le (Nat.le_refl _)] at h3
      have no : False := some_ch W H hma hmb hc h3
      exact no.elim
    · rintro u1 R ⟨_, h2, s, h3, h4, h5⟩ hlv
      have e7 : addMark ρ0 w35.heap.size = [(3, .pointer (some ⟨w.heap.size, 0, none⟩)), (5, .pointer (some ⟨w5.heap.size, 0, none⟩)), (6, .pointer (some ⟨w6.heap.size, 0, none⟩)), (7, .pointer (some ⟨w7.heap.size, 0, none⟩)), (24, fnv), (4294967296, .agg (marksA [w35.heap.size]))] := rfl
      rw [e7, reach_Index_Fork.z1_ret]
      unfold reach_Index_Fork.Z1_ret
      rw [marksOf_A]
      have kt := takeAll_kept [w35.heap.size] u1
      have hm : ∀ E ∈ [w35.heap.size], u1.heap[E]? = some (.deferred (some [])) := fun E hE => by
        rw [List.mem_singleton] at hE
        subst hE
        exact hlv.mark
      refine ⟨marksOk_of [w35.heap.size] u1 (by simp) hm, s.1, ⟨s.2.1, Cells.blk (kt.heap h4 (fun hE => by rw [List.mem_singleton] at hE; omega))⟩, 0, by rw [cell_blk (kt.heap h5 (fun hE => by rw [List.mem_singleton] at hE; omega))]; rfl, ?_⟩
      refine hyes _ l s hma hmb hc h3 ?_
      exact (kS (((nilS k835).trans h2 (fun _ _ h => h)))).trans kt (fun k hk hE => by rw [List.mem_singleton] at hE; have := k08.size; omega)
    · rintro id u1 R ⟨h1, _⟩ hlv
      cases h1
  · refine Split.yes (by rw [decide_eq_false hall]; rfl) ?_
    obtain ⟨o1, o2⟩ := old k824
    obtain ⟨t1, t2, u, rfl, u1, u2, u3⟩ := fin hnull 6 (nilS k824) o1 o2
    refine ⟨t1, t2, hnull.1, ⟨hnull.2.1, Cells.blk u1⟩, 6, (cell_blk u2 0).trans rfl, hno _ (fun e => hall fun p hp => ?_) (kS ((nilS k824).trans u3 (fun _ _ h => h)))⟩
    simp only [List.mem_cons, List.not_mem_nil, or_false] at hp
    rcases hp with rfl | rfl
    · exact e.1
    · exact e.2
end
end Go.Proofs.YtgfkpemnkmebkaaGreatDoor
/-
  The document's Next and Fork; what both come to.
-/
namespace Go.Proofs.YtgfkpemnkmebkaaGreatDoor
open Go Go.Lite Go.RowKit

/-- what Next comes to -/
def NxR (D : DG) (P : List Int) (a b s : HT) (e : Int) : Prop := ∃ l, ChainL D P b l ∧ ((e = 0 ∧ NextL l a s) ∨ (e = 6 ∧ s = hnull ∧ ∀ s, ¬ NextL l a s))
/-- what Fork comes to -/
def FkR (D : DG) (P : List Int) (a b s : HT) (e : Int) : Prop := (¬ (a ∈ ids D ∧ b ∈ ids D) ∧ s = hnull ∧ e = 6) ∨ (a ∈ ids D ∧ b ∈ ids D ∧ e = 0 ∧ ∃ l, ChainL D P a l ∧ FirstCh D P l b s)
theorem NxR.one {D : DG} {P : List Int} (W : WfD D) (H : Sel D P) {a b s s' : HT} {e e' : Int} (h : NxR D P a b s e) (h' : NxR D P a b s' e') : s = s' ∧ e = e' := by
  obtain ⟨l, h1, h2⟩ := h
  obtain ⟨l', g1, g2⟩ := h'
  have := ChainL.one W H h1 g1
  subst this
  rcases h2 with ⟨rfl, h2⟩ | ⟨rfl, rfl, h2⟩ <;> rcases g2 with ⟨rfl, g2⟩ | ⟨rfl, rfl, g2⟩
  · exact ⟨h2.one (h1.nodup W H) g2, rfl⟩
  · exact absurd h2 (g2 _)
  · exact absurd g2 (h2 _)
  · exact ⟨rfl, rfl⟩
theorem FkR.one {D : DG} {P : List Int} (W : WfD D) (H : Sel D P) {a b s s' : HT} {e e' : Int} (h : FkR D P a b s e) (h' : FkR D P a b s' e') : s = s' ∧ e = e' := by
  rcases h with ⟨h1, rfl, rfl⟩ | ⟨h1, h2, rfl, l, h3, h4⟩ <;> rcases h' with ⟨g1, rfl, rfl⟩ | ⟨g1, g2, rfl, l', g3, g4⟩
  · exact ⟨rfl, rfl⟩
  · exact absurd ⟨g1, g2⟩ h1
  · exact absurd ⟨h1, h2⟩ g1
  · have := ChainL.one W H h3 g3
    subst this
    exact ⟨h4.one g4, rfl⟩
section
variable {w w' : World} {F : Nat → Prop} {x r : Nat} {D : DG} {P : List Int} {m : XM} {K : Value → World → Prop}
theorem reach_Next_R (h : XV w F x D P m) (hD : D.length ≤ 5000) (a b : HT) (hK : ∀ w' s e, NxR D P a b s e → Kept Nil w w' → K (.tuple #[.agg s.1, .int .i64 e]) w') :
    Ret Tryz.prog reach_Index_Next.id #[.pointer (some ⟨x, 0, none⟩), .agg a.1, .agg b.1] w K := by
  obtain ⟨l, hc⟩ := ChainL.ex h.sel b
  exact reach_Next_ok h hD a b hc (fun w' hn k => hK w' hnull 6 ⟨l, hc, .inr ⟨rfl, rfl, hn⟩⟩ k) (fun w' s hs k => hK w' s 0 ⟨l, hc, .inl ⟨rfl, hs⟩⟩ k)
theorem reach_Fork_R (h : XV w F x D P m) (hD : D.length ≤ 5000) (a b : HT) (hK : ∀ w' s e, FkR D P a b s e → Kept Nil w w' → K (.tuple #[.agg s.1, .int .i64 e]) w') :
    Ret Tryz.prog reach_Index_Fork.id #[.pointer (some ⟨x, 0, none⟩), .agg a.1, .agg b.1] w K :=
  reach_Fork_ok h hD a b (fun w' hn k => hK w' hnull 6 (.inl ⟨hn, rfl, rfl⟩) k) (fun w' l s h1 h2 h3 h4 k => hK w' s 0 (.inr ⟨h1, h2, rfl, l, h3, h4⟩) k)
theorem ref12_Next_R (H : IsR2 w F r D P) (hD : D.length ≤ 5000) (a b : HT) (hK : ∀ w' s e, NxR D P a b s e → Kept Nil w w' → K (.tuple #[.agg s.1, .int .i64 e]) w') :
    Ret Tryz.prog ref12_Index_Next.id #[.pointer (some ⟨r, 0, none⟩), .agg a.1, .agg b.1] w K := by
  refine ref12_Index_Next.of ?_
  unfold ref12_Index_Next.W
  intro w4 w5 w6
  have k4 : Kept Nil w w4 := (Kept.refl _ _).alloc _
  have ha4 : w4.heap[w.heap.size]? = some (.cells a.1 T_api_Hash (0, 0)) := new_blk w _
  have k5 : Kept Nil w4 w5 := (Kept.refl _ _).alloc _
  have hb5 : w5.heap[w4.heap.size]? = some (.cells b.1 T_api_Hash (0, 0)) := new_blk w4 _
  have k6 : Kept Nil w5 w6 := (Kept.refl _ _).alloc _
  have hr6 : w6.heap[w5.heap.size]? = some (.cells hnull.1 T_api_Hash (0, 0)) := new_blk w5 _
  clear_value w6
  have hb6 := k6.heap hb5 (fun h => h)
  have ha6 := k6.heap (k5.heap ha4 (fun h => h)) (fun h => h)
  have k06 := (k4.trans k5 (fun _ _ h => h)).trans k6 (fun _ _ h => h)
  have s4 := k4.size
  have s5 := k5.size
  clear_value w5 w4
  refine ⟨b.1, ⟨b.2.1, Cells.blk hb6⟩, ref12_Up (H.same k06) (by omega) b fun A9 c9 w9 l hc row9 k9 => ⟨A9, _, c9, rfl, ?_⟩⟩
  have k09 := k06.trans k9 (fun _ _ h => h)
  have hll := hc.len H.sel
  have hL : ∀ {u : World}, Kept Nil w9 u → HS u A9 l.length l := fun k => (HRow.hs row9).same k
  refine ref12_Index_Next.loop1 (I := fun s v => ∃ i : Nat, s = (0, (i : Int)) ∧ 1 ≤ i ∧ (∀ q, q + 1 < i → l[q + 1]? ≠ some a) ∧ Kept Nil w9 v) (μ := fun s _ => ((l.length : Int) + 1 - s.2).toNat) (s := (0, 1)) ⟨1, rfl, Nat.le_refl _, fun q hq => by omega, Kept.refl _ _⟩ ?_
  rintro s v ⟨i, rfl, hi, hno, kv⟩
  have k6v := k9.trans kv (fun _ _ h => h)
  have k0v := k06.trans k6v (fun _ _ h => h)
  have hrv := k6v.heap hr6 (fun h => h)
  refine Split.dec (fun hil0 => ?_) (fun hge => ?_)
  · simp only at hil0
    have hil : i < l.length := by omega
    obtain ⟨q, rfl⟩ : ∃ q, i = q + 1 := ⟨i - 1, by omega⟩
    obtain ⟨y, hy⟩ : ∃ y, l[q + 1]? = some y := ⟨_, List.getElem?_eq_getElem hil⟩
    obtain ⟨s, hs⟩ : ∃ s, l[q]? = some s := ⟨_, List.getElem?_eq_getElem (by omega)⟩
    intro w16
    have k16 : Kept Nil v w16 := (Kept.refl _ _).drew
    clear_value w16
    refine (hL (kv.trans k16 (fun _ _ h => h))).load (i := ((q + 1 : Nat) : Int)) (by omega) (by rw [Int.toNat_natCast]; exact hy) ⟨a.1, ⟨a.2.1, Cells.blk ((k6v.trans k16 (fun _ _ h => h)).heap ha6 (fun h => h))⟩, ⟨y.2.ints, a.2.ints⟩, ?_⟩
    rw [sameInts_eq]
    by_cases he : y = a
    · subst he
      refine Split.yes (decide_eq_true rfl) ?_
      have e1 : IntKind.i64.wrap (((0 : Int), ((q + 1 : Nat) : Int)).2 - 1) = (q : Int) := by simp only; rw [wrapI (by omega) (by omega)]; omega
      rw [e1]
      refine (hL (kv.trans k16 (fun _ _ h => h))).load (i := (q : Int)) (by omega) (by rw [Int.toNat_natCast]; exact hs) ?_
      obtain ⟨t1, t2, t3⟩ := hash_set s (k16.heap hrv (fun h => h)) rfl
      refine ⟨t1, ?_⟩
      intro w24
      rw [roundQ_ret, ref12_Index_Next.x1_ret]
      exact ⟨s.1, ⟨s.2.1, Cells.blk t2⟩, hK _ s 0 ⟨l, hc, .inl ⟨rfl, q, hy, hs⟩⟩ ((k0v.trans k16 (fun _ _ h => h)).trans t3 (fun k hk e => by omega))⟩
    · refine Split.no (decide_eq_false he) ?_
      simp only
      rw [wrapP (n := ((q + 1 : Nat) : Int)) (by omega) (by omega)]
      refine ⟨(0, ((q + 1 : Nat) : Int) + 1), rfl, ⟨q + 1 + 1, rfl, by omega, fun p hp => ?_, kv.trans k16 (fun _ _ h => h)⟩, by simp only; omega⟩
      by_cases e : p = q
      · subst e
        rw [hy]
        exact fun e => he (Option.some.inj e)
      · exact hno p (by omega)
  · simp only at hge
    rw [roundQ_exit, ref12_Index_Next.x1_0]
    obtain ⟨t1, t2, t3⟩ := hash_set hnull hrv rfl
    refine ⟨t1, hnull.1, ⟨hnull.2.1, Cells.blk t2⟩, hK _ hnull 6 ⟨l, hc, .inr ⟨rfl, rfl, ?_⟩⟩ (k0v.trans t3 (fun k hk e => by omega))⟩
    rintro s ⟨q, h1, _⟩
    exact hno q (by have := (List.getElem?_eq_some_iff.1 h1).1; omega) h1
theorem ref12_Fork_R (H : IsR2 w F r D P) (hD : D.length ≤ 5000) (a b : HT) (hK : ∀ w' s e, FkR D P a b s e → Kept Nil w w' → K (.tuple #[.agg s.1, .int .i64 e]) w') :
    Ret Tryz.prog ref12_Index_Fork.id #[.pointer (some ⟨r, 0, none⟩), .agg a.1, .agg b.1] w K := by
  have W := H.W
  refine ref12_Index_Fork.of ?_
  unfold ref12_Index_Fork.W
  intro w4 w5 w6 w7
  have k4 : Kept Nil w w4 := (Kept.refl _ _).alloc _
  have ha4 : w4.heap[w.heap.size]? = some (.cells a.1 T_api_Hash (0, 0)) := new_blk w _
  have k5 : Kept Nil w4 w5 := (Kept.refl _ _).alloc _
  have hb5 : w5.heap[w4.heap.size]? = some (.cells b.1 T_api_Hash (0, 0)) := new_blk w4 _
  have k6 : Kept Nil w5 w6 := (Kept.refl _ _).alloc _
  have hr6 : w6.heap[w5.heap.size]? = some (.cells hnull.1 T_api_Hash (0, 0)) := new_blk w5 _
  have k7 : Kept Nil w6 w7 := (Kept.refl _ _).drew
  clear_value w7
  have hr7 := k7.heap hr6 (fun h => h)
  have hb7 := k7.heap (k6.heap hb5 (fun h => h)) (fun h => h)
  have ha7 := k7.heap (k6.heap (k5.heap ha4 (fun h => h)) (fun h => h)) (fun h => h)
  have k07 := ((k4.trans k5 (fun _ _ h => h)).trans k6 (fun _ _ h => h)).trans k7 (fun _ _ h => h)
  have s4 := k4.size
  have s5 := k5.size
  clear_value w6 w5 w4
  have fin : ∀ {v : World} (s : HT) (e : Int), Kept Nil w7 v → FkR D P a b s e →
      (s.1.size = 32 ∧ (∀ c ∈ s.1.toList, c.oneCell' = true) ∧ ∀ j, j < 32 → Wr v ((⟨w5.heap.size, 0, none⟩ : Addr).add j)) ∧ ∃ r : Array Value, (r.size = 32 ∧ Cells (setCells v (⟨w5.heap.size, 0, none⟩ : Addr) s.1.toList 0) (⟨w5.heap.size, 0, none⟩ : Addr) r) ∧ K (.tuple #[.agg r, .int .i64 e]) (setCells v (⟨w5.heap.size, 0, none⟩ : Addr) s.1.toList 0) := fun s e kv hk => by
    obtain ⟨t1, t2, t3⟩ := hash_set s (kv.heap hr7 (fun h => h)) rfl
    exact ⟨t1, s.1, ⟨s.2.1, Cells.blk t2⟩, hK _ s e hk ((k07.trans kv (fun _ _ h => h)).trans t3 (fun k hk e => by omega))⟩
  refine Is.mk rfl ⟨a.1, ⟨a.2.1, Cells.blk ha7⟩, ?_⟩
  rw [add_zero]
  refine ref_At (H.same k07).gr (by omega) a fun w11 k11 => ⟨_, rfl, ?_⟩
  by_cases hma : ¬ a ∈ ids D
  · exact Split.yes (decide_eq_true (by have := atI_neg.2 hma; omega)) (fin hnull 6 k11 (.inl ⟨fun e => hma e.1, rfl, rfl⟩))
  replace hma := Classical.not_not.1 hma
  refine Split.no (decide_eq_false (fun e => atI_neg.1 e hma)) (Is.mk rfl ⟨b.1, ⟨b.2.1, Cells.blk (k11.heap hb7 (fun h => h))⟩, ?_⟩)
  refine ref_At (H.same (k07.trans k11 (fun _ _ h => h))).gr (by omega) b fun w20 k20 => ⟨_, rfl, ?_⟩
  have k720 := k11.trans k20 (fun _ _ h => h)
  by_cases hmb : ¬ b ∈ ids D
  · exact Split.yes (decide_eq_true (by have := atI_neg.2 hmb; omega)) (fin hnull 6 k720 (.inl ⟨fun e => hmb e.2, rfl, rfl⟩))
  replace hmb := Classical.not_not.1 hmb
  refine Split.no (decide_eq_false (fun e => atI_neg.1 e hmb)) ⟨a.1, ⟨a.2.1, Cells.blk (k720.heap ha7 (fun h => h))⟩, ?_⟩
  refine ref12_Up (H.same (k07.trans k720 (fun _ _ h => h))) (by omega) a fun A28 c28 w28 l hc row28 k28 => ⟨A28, _, c28, rfl, ?_⟩
  have k728 := k720.trans k28 (fun _ _ h => h)
  have hll := hc.len H.sel
  have hL : ∀ {u : World}, Kept Nil w28 u → HS u A28 l.length l := fun k => (HRow.hs row28).same k
  refine ref12_Index_Fork.loop1 (I := fun s v => ∃ i : Nat, s = (0, (i : Int)) ∧ i ≤ l.length ∧ (∀ y ∈ l.take i, ¬ Ch D P y b) ∧ Kept Nil w28 v) (μ := fun s _ => ((l.length : Int) - s.2).toNat) (s := (0, 0)) ⟨0, rfl, Nat.zero_le _, by simp, Kept.refl _ _⟩ ?_
  rintro s v ⟨i, rfl, hi, hno, kv⟩
  refine Split.dec (fun hil0 => ?_) (fun hge => ?_)
  · simp only at hil0
    have hil : i < l.length := by omega
    obtain ⟨y, hy⟩ : ∃ y, l[i]? = some y := ⟨_, List.getElem?_eq_getElem hil⟩
    have hy' : l[((i : Nat) : Int).toNat]? = some y := by rw [Int.toNat_natCast]; exact hy
    intro w36
    have k36 : Kept Nil v w36 := (Kept.refl _ _).drew
    clear_value w36
    have kv36 := kv.trans k36 (fun _ _ h => h)
    have k736 := k728.trans kv36 (fun _ _ h => h)
    refine (hL kv36).load (i := (i : Int)) (by omega) hy' ⟨b.1, ⟨b.2.1, Cells.blk (k736.heap hb7 (fun h => h))⟩, ?_⟩
    refine ref12_Chain (H.same (k07.trans k736 (fun _ _ h => h))) (by omega) y b fun w41 t ht k41 => ⟨t, rfl, ?_⟩
    have kv41 := kv36.trans k41 (fun _ _ h => h)
    cases t with
    | true =>
      refine Split.yes rfl ((hL kv41).load (i := (i : Int)) (by omega) hy' ?_)
      obtain ⟨f1, f2⟩ := fin y 0 (k728.trans kv41 (fun _ _ h => h)) (.inr ⟨hma, hmb, rfl, l, hc, i, hy, ht.1 rfl, hno⟩)
      refine ⟨f1, ?_⟩
      intro w47
      rw [roundQ_ret, ref12_Index_Fork.x1_ret]
      exact f2
    | false =>
      refine Split.no rfl ?_
      simp only
      rw [wrapP (n := (i : Int)) (by omega) (by omega)]
      refine ⟨(0, (i : Int) + 1), rfl, ⟨i + 1, rfl, hil, fun p hp => ?_, kv41⟩, by simp only; omega⟩
      rcases (mem_take_succ hy).1 hp with hp | rfl
      · exact hno p hp
      · exact fun e => by have := ht.2 e; cases this
  · simp only at hge
    rw [List.take_of_length_le (by omega)] at hno
    have no : False := some_ch W H.sel hma hmb hc hno
    exact no.elim
end
end Go.Proofs.YtgfkpemnkmebkaaGreatDoor
/-
  The walk of ReachForks. (Four calls, each in two orders, are printed by our rf3.py.)
-/
namespace Go.Proofs.YtgfkpemnkmebkaaGreatDoor
open Go Go.Lite Go.RowKit

section
variable {u : World} {F : Nat → Prop} {x r : Nat} {D : DG} {P : List Int} {m : XM}
theorem forks_B2 (hX : XV u F x D P m) (hD : D.length ≤ 5000) {A : Option Addr} {n c i k : Nat} {al : List HT} (hL : HS u A n al) {h y : HT} (hh : al[i]? = some h) (hy : al[k]? = some y) {Q : Post} {R : Option Addr}
    (next : ∀ (wC : World) (b : Nat) (s : HT) (e : Int), Kept Nil u wC → FkR D P h y s e → wC.heap[b]? = some (.cells s.1 T_api_Hash (0, 0)) → law12_ReachForks.J1 false (some ⟨x, 0, none⟩) R A n c (i : Int) (k : Int) ⟨b, 0, none⟩ e Q wC) : law12_ReachForks.B2 false (some ⟨x, 0, none⟩) R A n c (i : Int) (k : Int) Q u := by
  have hlen := hL.len
  have hi := (List.getElem?_eq_some_iff.1 hh).1
  have hk := (List.getElem?_eq_some_iff.1 hy).1
  refine Split.yes (decide_eq_true (by omega)) ?_
  intro wd
  have kd : Kept Nil u wd := (Kept.refl _ _).drew
  clear_value wd
  have hLd := hL.same kd
  obtain ⟨a1, ea1, _, hc1⟩ := hLd.at_ i h hh
  obtain ⟨a2, ea2, _, hc2⟩ := hLd.at_ k y hy
  have ee : a2 = a1 := by rw [ea1] at ea2; exact (Option.some.inj ea2).symm
  subst ee
  have f1 : ∀ {z : World}, Kept Nil wd z → Cells z (a2.add ((i : Int).toNat * 32)) h.1 := fun k => by rw [Int.toNat_natCast]; exact Cells.keep hc1 k (fun h => h)
  have f2 : ∀ {z : World}, Kept Nil wd z → Cells z (a2.add ((k : Int).toNat * 32)) y.1 := fun k => by rw [Int.toNat_natCast]; exact Cells.keep hc2 k (fun h => h)
  subst ea1
  refine ⟨⟨by omega, by omega⟩, Is.mk rfl ⟨h.1, ⟨h.2.1, f1 (Kept.refl _ _)⟩, ⟨by omega, by omega⟩, Is.mk rfl ⟨y.1, ⟨y.2.1, f2 (Kept.refl _ _)⟩, ?_, ?_⟩⟩⟩
  · refine reach_Fork_R (hX.same kd) hD h y fun wA s e hse kA => ⟨s.1, e, rfl, ?_⟩
    intro wB
    have qB : wB.heap[wA.heap.size]? = some (.cells hnull.1 T_api_Hash (0, 0)) := new_blk wA _
    have kB : Kept Nil wA wB := (Kept.refl _ _).alloc _
    clear_value wB
    obtain ⟨t1, t2, t3⟩ := hash_set s qB rfl
    refine ⟨t1, ?_⟩
    intro wC
    replace t2 : wC.heap[wA.heap.size]? = some (.cells s.1 T_api_Hash (0, 0)) := t2
    replace t3 : Kept (· = wA.heap.size) wB wC := t3
    clear_value wC
    have kuA := kd.trans kA (fun _ _ h => h)
    have kuC : Kept Nil u wC := (kuA.trans kB (fun _ _ h => h)).trans t3 (fun q hq e => by have := kuA.size; omega)
    exact law12_ReachForks.join1 (next wC _ s e kuC hse t2)
  · intro wB
    have qB : wB.heap[wd.heap.size]? = some (.cells hnull.1 T_api_Hash (0, 0)) := new_blk wd _
    have kB : Kept Nil wd wB := (Kept.refl _ _).alloc _
    clear_value wB
    refine ⟨⟨_, rfl, y.2.1, f2 kB⟩, ⟨_, rfl, h.2.1, f1 kB⟩, ?_⟩
    refine reach_Fork_R (hX.same (kd.trans kB (fun _ _ h => h))) hD h y fun wA s e hse kA => ⟨s.1, e, rfl, ?_⟩
    obtain ⟨t1, t2, t3⟩ := hash_set s (kA.heap qB (fun h => h)) rfl
    refine ⟨t1, ?_⟩
    intro wC
    replace t2 : wC.heap[wd.heap.size]? = some (.cells s.1 T_api_Hash (0, 0)) := t2
    replace t3 : Kept (· = wd.heap.size) wA wC := t3
    clear_value wC
    have kuA := (kd.trans kB (fun _ _ h => h)).trans kA (fun _ _ h => h)
    have kuC : Kept Nil u wC := kuA.trans t3 (fun q hq e => by have := kd.size; omega)
    exact law12_ReachForks.join1 (next wC _ s e kuC hse t2)
theorem forks_J1 (hR : IsR2 u F r D P) (hD : D.length ≤ 5000) {A : Option Addr} {n c i k : Nat} {al : List HT} (hL : HS u A n al) {h y : HT} (hh : al[i]? = some h) (hy : al[k]? = some y) {Q : Post} {X : Option Addr} {b0 : Nat} {e0 : Int}
    (next : ∀ (wC : World) (b : Nat) (s : HT) (e : Int), Kept Nil u wC → FkR D P h y s e → wC.heap[b]? = some (.cells s.1 T_api_Hash (0, 0)) → law12_ReachForks.J2 false X (some ⟨r, 0, none⟩) A n c (i : Int) (k : Int) ⟨b0, 0, none⟩ e0 ⟨b, 0, none⟩ e Q wC) : law12_ReachForks.J1 false X (some ⟨r, 0, none⟩) A n c (i : Int) (k : Int) ⟨b0, 0, none⟩ e0 Q u := by
  have hlen := hL.len
  have hi := (List.getElem?_eq_some_iff.1 hh).1
  have hk := (List.getElem?_eq_some_iff.1 hy).1
  unfold law12_ReachForks.J1
  intro wd
  have kd : Kept Nil u wd := (Kept.refl _ _).drew
  clear_value wd
  have hLd := hL.same kd
  obtain ⟨a1, ea1, _, hc1⟩ := hLd.at_ i h hh
  obtain ⟨a2, ea2, _, hc2⟩ := hLd.at_ k y hy
  have ee : a2 = a1 := by rw [ea1] at ea2; exact (Option.some.inj ea2).symm
  subst ee
  have f1 : ∀ {z : World}, Kept Nil wd z → Cells z (a2.add ((i : Int).toNat * 32)) h.1 := fun k => by rw [Int.toNat_natCast]; exact Cells.keep hc1 k (fun h => h)
  have f2 : ∀ {z : World}, Kept Nil wd z → Cells z (a2.add ((k : Int).toNat * 32)) y.1 := fun k => by rw [Int.toNat_natCast]; exact Cells.keep hc2 k (fun h => h)
  subst ea1
  refine ⟨⟨by omega, by omega⟩, Is.mk rfl ⟨h.1, ⟨h.2.1, f1 (Kept.refl _ _)⟩, ⟨by omega, by omega⟩, Is.mk rfl ⟨y.1, ⟨y.2.1, f2 (Kept.refl _ _)⟩, ?_, ?_⟩⟩⟩
  · refine ref12_Fork_R (hR.same kd) hD h y fun wA s e hse kA => ⟨s.1, e, rfl, ?_⟩
    intro wB
    have qB : wB.heap[wA.heap.size]? = some (.cells hnull.1 T_api_Hash (0, 0)) := new_blk wA _
    have kB : Kept Nil wA wB := (Kept.refl _ _).alloc _
    clear_value wB
    obtain ⟨t1, t2, t3⟩ := hash_set s qB rfl
    refine ⟨t1, ?_⟩
    intro wC
    replace t2 : wC.heap[wA.heap.size]? = some (.cells s.1 T_api_Hash (0, 0)) := t2
    replace t3 : Kept (· = wA.heap.size) wB wC := t3
    clear_value wC
    have kuA := kd.trans kA (fun _ _ h => h)
    have kuC : Kept Nil u wC := (kuA.trans kB (fun _ _ h => h)).trans t3 (fun q hq e => by have := kuA.size; omega)
    exact law12_ReachForks.join2 (next wC _ s e kuC hse t2)
  · intro wB
    have qB : wB.heap[wd.heap.size]? = some (.cells hnull.1 T_api_Hash (0, 0)) := new_blk wd _
    have kB : Kept Nil wd wB := (Kept.refl _ _).alloc _
    clear_value wB
    refine ⟨⟨_, rfl, y.2.1, f2 kB⟩, ⟨_, rfl, h.2.1, f1 kB⟩, ?_⟩
    refine ref12_Fork_R (hR.same (kd.trans kB (fun _ _ h => h))) hD h y fun wA s e hse kA => ⟨s.1, e, rfl, ?_⟩
    obtain ⟨t1, t2, t3⟩ := hash_set s (kA.heap qB (fun h => h)) rfl
    refine ⟨t1, ?_⟩
    intro wC
    replace t2 : wC.heap[wd.heap.size]? = some (.cells s.1 T_api_Hash (0, 0)) := t2
    replace t3 : Kept (· = wd.heap.size) wA wC := t3
    clear_value wC
    have kuA := (kd.trans kB (fun _ _ h => h)).trans kA (fun _ _ h => h)
    have kuC : Kept Nil u wC := kuA.trans t3 (fun q hq e => by have := kd.size; omega)
    exact law12_ReachForks.join2 (next wC _ s e kuC hse t2)
theorem forks_J3 (hX : XV u F x D P m) (hD : D.length ≤ 5000) {A : Option Addr} {n c i k : Nat} {al : List HT} (hL : HS u A n al) {h y : HT} (hh : al[i]? = some h) (hy : al[k]? = some y) {Q : Post} {R : Option Addr}
    (next : ∀ (wC : World) (b : Nat) (s : HT) (e : Int), Kept Nil u wC → NxR D P h y s e → wC.heap[b]? = some (.cells s.1 T_api_Hash (0, 0)) → law12_ReachForks.J4 false (some ⟨x, 0, none⟩) R A n c (i : Int) (k : Int) ⟨b, 0, none⟩ e Q wC) : law12_ReachForks.J3 false (some ⟨x, 0, none⟩) R A n c (i : Int) (k : Int) Q u := by
  have hlen := hL.len
  have hi := (List.getElem?_eq_some_iff.1 hh).1
  have hk := (List.getElem?_eq_some_iff.1 hy).1
  unfold law12_ReachForks.J3
  intro wd
  have kd : Kept Nil u wd := (Kept.refl _ _).drew
  clear_value wd
  have hLd := hL.same kd
  obtain ⟨a1, ea1, _, hc1⟩ := hLd.at_ i h hh
  obtain ⟨a2, ea2, _, hc2⟩ := hLd.at_ k y hy
  have ee : a2 = a1 := by rw [ea1] at ea2; exact (Option.some.inj ea2).symm
  subst ee
  have f1 : ∀ {z : World}, Kept Nil wd z → Cells z (a2.add ((i : Int).toNat * 32)) h.1 := fun k => by rw [Int.toNat_natCast]; exact Cells.keep hc1 k (fun h => h)
  have f2 : ∀ {z : World}, Kept Nil wd z → Cells z (a2.add ((k : Int).toNat * 32)) y.1 := fun k => by rw [Int.toNat_natCast]; exact Cells.keep hc2 k (fun h => h)
  subst ea1
  refine ⟨⟨by omega, by omega⟩, Is.mk rfl ⟨h.1, ⟨h.2.1, f1 (Kept.refl _ _)⟩, ⟨by omega, by omega⟩, Is.mk rfl ⟨y.1, ⟨y.2.1, f2 (Kept.refl _ _)⟩, ?_, ?_⟩⟩⟩
  · refine reach_Next_R (hX.same kd) hD h y fun wA s e hse kA => ⟨s.1, e, rfl, ?_⟩
    intro wB
    have qB : wB.heap[wA.heap.size]? = some (.cells hnull.1 T_api_Hash (0, 0)) := new_blk wA _
    have kB : Kept Nil wA wB := (Kept.refl _ _).alloc _
    clear_value wB
    obtain ⟨t1, t2, t3⟩ := hash_set s qB rfl
    refine ⟨t1, ?_⟩
    intro wC
    replace t2 : wC.heap[wA.heap.size]? = some (.cells s.1 T_api_Hash (0, 0)) := t2
    replace t3 : Kept (· = wA.heap.size) wB wC := t3
    clear_value wC
    have kuA := kd.trans kA (fun _ _ h => h)
    have kuC : Kept Nil u wC := (kuA.trans kB (fun _ _ h => h)).trans t3 (fun q hq e => by have := kuA.size; omega)
    exact law12_ReachForks.join4 (next wC _ s e kuC hse t2)
  · intro wB
    have qB : wB.heap[wd.heap.size]? = some (.cells hnull.1 T_api_Hash (0, 0)) := new_blk wd _
    have kB : Kept Nil wd wB := (Kept.refl _ _).alloc _
    clear_value wB
    refine ⟨⟨_, rfl, y.2.1, f2 kB⟩, ⟨_, rfl, h.2.1, f1 kB⟩, ?_⟩
    refine reach_Next_R (hX.same (kd.trans kB (fun _ _ h => h))) hD h y fun wA s e hse kA => ⟨s.1, e, rfl, ?_⟩
    obtain ⟨t1, t2, t3⟩ := hash_set s (kA.heap qB (fun h => h)) rfl
    refine ⟨t1, ?_⟩
    intro wC
    replace t2 : wC.heap[wd.heap.size]? = some (.cells s.1 T_api_Hash (0, 0)) := t2
    replace t3 : Kept (· = wd.heap.size) wA wC := t3
    clear_value wC
    have kuA := (kd.trans kB (fun _ _ h => h)).trans kA (fun _ _ h => h)
    have kuC : Kept Nil u wC := kuA.trans t3 (fun q hq e => by have := kd.size; omega)
    exact law12_ReachForks.join4 (next wC _ s e kuC hse t2)
theorem forks_J4 (hR : IsR2 u F r D P) (hD : D.length ≤ 5000) {A : Option Addr} {n c i k : Nat} {al : List HT} (hL : HS u A n al) {h y : HT} (hh : al[i]? = some h) (hy : al[k]? = some y) {Q : Post} {X : Option Addr} {b0 : Nat} {e0 : Int}
    (next : ∀ (wC : World) (b : Nat) (s : HT) (e : Int), Kept Nil u wC → NxR D P h y s e → wC.heap[b]? = some (.cells s.1 T_api_Hash (0, 0)) → law12_ReachForks.J5 false X (some ⟨r, 0, none⟩) A n c (i : Int) (k : Int) ⟨b0, 0, none⟩ e0 ⟨b, 0, none⟩ e Q wC) : law12_ReachForks.J4 false X (some ⟨r, 0, none⟩) A n c (i : Int) (k : Int) ⟨b0, 0, none⟩ e0 Q u := by
  have hlen := hL.len
  have hi := (List.getElem?_eq_some_iff.1 hh).1
  have hk := (List.getElem?_eq_some_iff.1 hy).1
  unfold law12_ReachForks.J4
  intro wd
  have kd : Kept Nil u wd := (Kept.refl _ _).drew
  clear_value wd
  have hLd := hL.same kd
  obtain ⟨a1, ea1, _, hc1⟩ := hLd.at_ i h hh
  obtain ⟨a2, ea2, _, hc2⟩ := hLd.at_ k y hy
  have ee : a2 = a1 := by rw [ea1] at ea2; exact (Option.some.inj ea2).symm
  subst ee
  have f1 : ∀ {z : World}, Kept Nil wd z → Cells z (a2.add ((i : Int).toNat * 32)) h.1 := fun k => by rw [Int.toNat_natCast]; exact Cells.keep hc1 k (fun h => h)
  have f2 : ∀ {z : World}, Kept Nil wd z → Cells z (a2.add ((k : Int).toNat * 32)) y.1 := fun k => by rw [Int.toNat_natCast]; exact Cells.keep hc2 k (fun h => h)
  subst ea1
  refine ⟨⟨by omega, by omega⟩, Is.mk rfl ⟨h.1, ⟨h.2.1, f1 (Kept.refl _ _)⟩, ⟨by omega, by omega⟩, Is.mk rfl ⟨y.1, ⟨y.2.1, f2 (Kept.refl _ _)⟩, ?_, ?_⟩⟩⟩
  · refine ref12_Next_R (hR.same kd) hD h y fun wA s e hse kA => ⟨s.1, e, rfl, ?_⟩
    intro wB
    have qB : wB.heap[wA.heap.size]? = some (.cells hnull.1 T_api_Hash (0, 0)) := new_blk wA _
    have kB : Kept Nil wA wB := (Kept.refl _ _).alloc _
    clear_value wB
    obtain ⟨t1, t2, t3⟩ := hash_set s qB rfl
    refine ⟨t1, ?_⟩
    intro wC
    replace t2 : wC.heap[wA.heap.size]? = some (.cells s.1 T_api_Hash (0, 0)) := t2
    replace t3 : Kept (· = wA.heap.size) wB wC := t3
    clear_value wC
    have kuA := kd.trans kA (fun _ _ h => h)
    have kuC : Kept Nil u wC := (kuA.trans kB (fun _ _ h => h)).trans t3 (fun q hq e => by have := kuA.size; omega)
    exact law12_ReachForks.join5 (next wC _ s e kuC hse t2)
  · intro wB
    have qB : wB.heap[wd.heap.size]? = some (.cells hnull.1 T_api_Hash (0, 0)) := new_blk wd _
    have kB : Kept Nil wd wB := (Kept.refl _ _).alloc _
    clear_value wB
    refine ⟨⟨_, rfl, y.2.1, f2 kB⟩, ⟨_, rfl, h.2.1, f1 kB⟩, ?_⟩
    refine ref12_Next_R (hR.same (kd.trans kB (fun _ _ h => h))) hD h y fun wA s e hse kA => ⟨s.1, e, rfl, ?_⟩
    obtain ⟨t1, t2, t3⟩ := hash_set s (kA.heap qB (fun h => h)) rfl
    refine ⟨t1, ?_⟩
    intro wC
    replace t2 : wC.heap[wd.heap.size]? = some (.cells s.1 T_api_Hash (0, 0)) := t2
    replace t3 : Kept (· = wd.heap.size) wA wC := t3
    clear_value wC
    have kuA := (kd.trans kB (fun _ _ h => h)).trans kA (fun _ _ h => h)
    have kuC : Kept Nil u wC := kuA.trans t3 (fun q hq e => by have := kd.size; omega)
    exact law12_ReachForks.join5 (next wC _ s e kuC hse t2)
end
section
variable {w w' : World} {FP : Nat → Prop} {K : Value → World → Prop}
/-- how far the loops over all are -/
def AllI (D : DG) (w0 : World) : Bool × Int → World → Prop := fun s v => ∃ i : Nat, s = (false, (i : Int)) ∧ i ≤ D.length + 1 ∧ Kept Nil w0 v
abbrev AllM (D : DG) : Bool × Int → World → Nat := fun s _ => (((D.length + 1 : Nat) : Int) - s.2).toNat
theorem forksX_ok {A : Option Addr} {n c : Nat} {l : List SN} (hl : Stp w FP A n l) (hn : n < 9223372036854775808) (root other : HT) (hT : Tab w) (hK : ∀ w', Kept Nil w w' → K (.bool true) w') :
    Ret Tryz.prog law12_ReachForks.id #[.agg root.1, .slice A n c, .agg other.1] w K := by
  have hlen := hl.len
  refine law12_ReachForks.of ?_
  unfold law12_ReachForks.W
  intro w4 w5
  have k4 : Kept Nil w w4 := (Kept.refl _ _).alloc _
  have hr4 : w4.heap[w.heap.size]? = some (.cells root.1 T_api_Hash (0, 0)) := new_blk w _
  have k5 : Kept Nil w4 w5 := (Kept.refl _ _).alloc _
  have ho5 : w5.heap[w4.heap.size]? = some (.cells other.1 T_api_Hash (0, 0)) := new_blk w4 _
  have hr5 := k5.heap hr4 (fun h => h)
  clear_value w5
  have k05 := k4.trans k5 (fun _ _ h => h)
  refine fewS_ok (hl.same k05) hn 22 fun x hx => ⟨x, rfl, ?_⟩
  cases x with
  | false => exact Split.yes rfl (knownX_ok (hT.same k05) fun w10 k10 => ⟨true, rfl, hK w10 (k05.trans k10 (fun _ _ h => h))⟩)
  | true =>
    obtain ⟨hps, hll⟩ := hx.1 rfl
    refine Split.no rfl ⟨root.1, ⟨root.2.1, Cells.blk hr5⟩, beginX_ok (hl.same k05) (by omega) hps root (hT.same k05) fun w14 S F x FR r B k14 _ _ _ _ => ⟨some ⟨x, 0, none⟩, some ⟨r, 0, none⟩, true, rfl, Split.no rfl ?_⟩⟩
    have k014 := k05.trans k14 (fun _ _ h => h)
    have hDl := buildX_len root l
    generalize (buildX root l).D = D at B hDl
    generalize (buildX root l).P = P at B
    obtain ⟨m, hV, _⟩ := B.X
    have W := hV.W
    have H := hV.sel
    have hX : ∀ {v : World}, Kept Nil w14 v → XV v F x D P m := fun k => hV.same k
    have hR : ∀ {v : World}, Kept Nil w14 v → IsR2 v FR r D P := fun k => B.R.same k
    refine ⟨other.1, ⟨other.2.1, Cells.blk (k14.heap ho5 (fun h => h))⟩, all_ok B.R (by omega) other fun A20 c20 w20 row20 k20 => ⟨A20, _, c20, rfl, ?_⟩⟩
    have hL : ∀ {v : World}, Kept Nil w20 v → HS v A20 (D.length + 1) (other :: ids D) := fun k => (HRow.hs row20).same k
    have go : ∀ {u : World}, Kept Nil w20 u → Kept Nil w14 u := fun k => k20.trans k (fun _ _ h => h)
    generalize hal : other :: ids D = al at row20 hL
    have hall : al.length = D.length + 1 := by rw [← hal, List.length_cons, ids_len]
    refine law12_ReachForks.loop1 (I := AllI D w20) (μ := AllM D) (s := (false, 0)) ⟨0, rfl, by omega, Kept.refl _ _⟩ ?_
    rintro s v0 ⟨i, rfl, hi, kv0⟩
    refine Split.dec (fun hil0 => ?_) (fun hge => ?_)
    · simp only at hil0
      have hil : i < D.length + 1 := by omega
      obtain ⟨h, hh⟩ : ∃ h, al[i]? = some h := ⟨_, List.getElem?_eq_getElem (by omega)⟩
      refine law12_ReachForks.loop2 (I := AllI D w20) (μ := AllM D) (s := (false, 0)) ⟨0, rfl, by omega, kv0⟩ ?_
      rintro s v ⟨k, rfl, hk, kv⟩
      by_cases hkl : k < D.length + 1
      · obtain ⟨y, hy⟩ : ∃ y, al[k]? = some y := ⟨_, List.getElem?_eq_getElem (by omega)⟩
        have n6 : ∀ u, Kept Nil v u → law12_ReachForks.J6 false (some ⟨x, 0, none⟩) (some ⟨r, 0, none⟩) A20 (D.length + 1) c20 (i : Int) (k : Int) (roundQ (law12_ReachForks.e2 (some ⟨x, 0, none⟩) (some ⟨r, 0, none⟩) A20 (D.length + 1) c20 (i : Int)) (AllI D w20) (AllM D) (false, (k : Int)) v (law12_ReachForks.q2 (roundQ (law12_ReachForks.e1 (some ⟨x, 0, none⟩) (some ⟨r, 0, none⟩) A20 (D.length + 1) c20) (AllI D w20) (AllM D) (false, (i : Int)) v0 (law12_ReachForks.q1 K)))) u := fun u ku => by
          unfold law12_ReachForks.J6
          rw [wrapP (n := (k : Int)) (by omega) (by omega)]
          exact ⟨(false, (k : Int) + 1), rfl, ⟨k + 1, rfl, hkl, kv.trans ku (fun _ _ h => h)⟩, by simp only [AllM]; omega⟩
        have n5 : ∀ u (nb mb : Nat) s0 e0 s e, Kept Nil v u → NxR D P h y s0 e0 → NxR D P h y s e → Cells u ⟨nb, 0, none⟩ s0.1 → Cells u ⟨mb, 0, none⟩ s.1 → law12_ReachForks.J5 false (some ⟨x, 0, none⟩) (some ⟨r, 0, none⟩) A20 (D.length + 1) c20 (i : Int) (k : Int) ⟨nb, 0, none⟩ e0 ⟨mb, 0, none⟩ e (roundQ (law12_ReachForks.e2 (some ⟨x, 0, none⟩) (some ⟨r, 0, none⟩) A20 (D.length + 1) c20 (i : Int)) (AllI D w20) (AllM D) (false, (k : Int)) v (law12_ReachForks.q2 (roundQ (law12_ReachForks.e1 (some ⟨x, 0, none⟩) (some ⟨r, 0, none⟩) A20 (D.length + 1) c20) (AllI D w20) (AllM D) (false, (i : Int)) v0 (law12_ReachForks.q1 K)))) u := fun u nb mb s0 e0 s e ku hs0 hs c0 c1 => by
          obtain ⟨rfl, rfl⟩ := hs0.one W H hs
          unfold law12_ReachForks.J5
          refine Split.no (by simp) ⟨s0.1, ⟨s0.2.1, c0⟩, s0.1, ⟨s0.2.1, c1⟩, ⟨s0.2.ints, s0.2.ints⟩, ?_⟩
          rw [sameInts_eq]
          exact Split.no (by rw [decide_eq_true rfl]; rfl) (law12_ReachForks.join6 (n6 u ku))
        have hLu : ∀ {u : World}, Kept Nil v u → HS u A20 (D.length + 1) al := fun k => hL (kv.trans k (fun _ _ h => h))
        have gu : ∀ {u : World}, Kept Nil v u → Kept Nil w14 u := fun k => go (kv.trans k (fun _ _ h => h))
        have n3 : ∀ u, Kept Nil v u → law12_ReachForks.J3 false (some ⟨x, 0, none⟩) (some ⟨r, 0, none⟩) A20 (D.length + 1) c20 (i : Int) (k : Int) (roundQ (law12_ReachForks.e2 (some ⟨x, 0, none⟩) (some ⟨r, 0, none⟩) A20 (D.length + 1) c20 (i : Int)) (AllI D w20) (AllM D) (false, (k : Int)) v (law12_ReachForks.q2 (roundQ (law12_ReachForks.e1 (some ⟨x, 0, none⟩) (some ⟨r, 0, none⟩) A20 (D.length + 1) c20) (AllI D w20) (AllM D) (false, (i : Int)) v0 (law12_ReachForks.q1 K)))) u := fun u ku =>
          forks_J3 (hX (gu ku)) (by omega) (hLu ku) hh hy fun u2 b2 s2 e2 ku2 h2 hb2 =>
            have q2 := ku.trans ku2 (fun _ _ h => h)
            forks_J4 (hR (gu q2)) (by omega) (hLu q2) hh hy fun u3 b3 s3 e3 ku3 h3 hb3 =>
              n5 u3 b2 b3 s2 e2 s3 e3 (q2.trans ku3 (fun _ _ h => h)) h2 h3 (Cells.blk (ku3.heap hb2 (fun h => h))) (Cells.blk hb3)
        have n2 : ∀ u (nb mb : Nat) s0 e0 s e, Kept Nil v u → FkR D P h y s0 e0 → FkR D P h y s e → Cells u ⟨nb, 0, none⟩ s0.1 → Cells u ⟨mb, 0, none⟩ s.1 → law12_ReachForks.J2 false (some ⟨x, 0, none⟩) (some ⟨r, 0, none⟩) A20 (D.length + 1) c20 (i : Int) (k : Int) ⟨nb, 0, none⟩ e0 ⟨mb, 0, none⟩ e (roundQ (law12_ReachForks.e2 (some ⟨x, 0, none⟩) (some ⟨r, 0, none⟩) A20 (D.length + 1) c20 (i : Int)) (AllI D w20) (AllM D) (false, (k : Int)) v (law12_ReachForks.q2 (roundQ (law12_ReachForks.e1 (some ⟨x, 0, none⟩) (some ⟨r, 0, none⟩) A20 (D.length + 1) c20) (AllI D w20) (AllM D) (false, (i : Int)) v0 (law12_ReachForks.q1 K)))) u := fun u nb mb s0 e0 s e ku hs0 hs c0 c1 => by
          obtain ⟨rfl, rfl⟩ := hs0.one W H hs
          unfold law12_ReachForks.J2
          refine Split.no (by simp) ⟨s0.1, ⟨s0.2.1, c0⟩, s0.1, ⟨s0.2.1, c1⟩, ⟨s0.2.ints, s0.2.ints⟩, ?_⟩
          rw [sameInts_eq]
          exact Split.no (by rw [decide_eq_true rfl]; rfl) (law12_ReachForks.join3 (n3 u ku))
        exact forks_B2 (hX (gu (Kept.refl _ _))) (by omega) (hLu (Kept.refl _ _)) hh hy fun u2 b2 s2 e2 ku2 h2 hb2 =>
          forks_J1 (hR (gu ku2)) (by omega) (hLu ku2) hh hy fun u3 b3 s3 e3 ku3 h3 hb3 =>
            n2 u3 b2 b3 s2 e2 s3 e3 (ku2.trans ku3 (fun _ _ h => h)) h2 h3 (Cells.blk (ku3.heap hb2 (fun h => h))) (Cells.blk hb3)
      · refine Split.no (decide_eq_false (by simp only; omega)) ?_
        rw [roundQ_exit, law12_ReachForks.x2_2]
        unfold law12_ReachForks.X2_2
        rw [wrapP (n := (i : Int)) (by omega) (by omega)]
        exact ⟨(false, (i : Int) + 1), rfl, ⟨i + 1, rfl, hil, kv⟩, by simp only [AllM]; omega⟩
    · rw [roundQ_exit, law12_ReachForks.x1_0]
      have k020 := (k014.trans k20 (fun _ _ h => h)).trans kv0 (fun _ _ h => h)
      exact knownX_ok (hT.same k020) fun w10 k10 => ⟨true, rfl, hK w10 (k020.trans k10 (fun _ _ h => h))⟩
end
end Go.Proofs.YtgfkpemnkmebkaaGreatDoor
