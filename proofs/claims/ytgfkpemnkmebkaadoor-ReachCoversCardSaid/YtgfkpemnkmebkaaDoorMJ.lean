/-
  The document's index: New, Add, Up, Chain.
-/
import Derived.Test.YtgfkpemnkmebkaaDoorMI
import Derived.Test.YtgfkpemnkmebkaaDoorMG
import Derived.Test.YtgfkpemnkmebkaaDoorMF
set_option linter.unusedVariables false
namespace Go.Proofs.YtgfkpemnkmebkaaDoor
open Go Go.Lite Go.RowKit

/-- the selected ones, in a row -/
def SelL (D : DG) (P : List Int) (l : List HT) : Prop := l.length = D.length ∧ ∀ (i j : Nat) (m : DN), P[i]? = some (j : Int) → D[j]? = some m → l[i]? = some m.id
structure IsR2 (w : World) (F : Nat → Prop) (r : Nat) (D : DG) (P : List Int) : Prop where
  ex : ∃ (A : Option Addr) (c : Nat) (B : Option Addr) (e : Nat) (l : List HT), w.heap[r]? = some (.cells #[.slice A D.length c, .slice B D.length e] T_plexusref12_Index (0, 0)) ∧ NS w F A D.length D ∧ HS w B D.length l ∧ (∀ a, B = some a → F a.block) ∧ SelL D P l
  far : ¬ F r
  sel : Sel D P
  W : WfD D
section
variable {w w' : World} {F F' S : Nat → Prop} {r : Nat} {D : DG} {P : List Int} {K : Value → World → Prop}
theorem IsR2.keep (h : IsR2 w F r D P) (hk : Kept S w w') (hr : ¬ S r) (hn : ∀ k, F k → ¬ S k) : IsR2 w' F r D P := by
  obtain ⟨A, c, B, e, l, h1, h2, h3, h4, h5⟩ := h.ex
  exact ⟨⟨A, c, B, e, l, hk.heap h1 hr, h2.keep hk hn, h3.keep hk (fun a ha => hn _ (h4 a ha)), h4, h5⟩, h.far, h.sel, h.W⟩
theorem IsR2.same (h : IsR2 w F r D P) (hk : Kept Nil w w') : IsR2 w' F r D P := h.keep hk (fun h => h) (fun _ _ h => h)
theorem IsR2.lt (h : IsR2 w F r D P) : r < w.heap.size := by obtain ⟨A, c, B, e, l, h1, _⟩ := h.ex; exact lt_blk h1
theorem IsR2.mono (h : IsR2 w F r D P) (hf : ∀ k, F k → F' k) (hr : ¬ F' r) : IsR2 w F' r D P := by
  obtain ⟨A, c, B, e, l, h1, h2, h3, h4, h5⟩ := h.ex
  exact ⟨⟨A, c, B, e, l, h1, h2.mono hf, h3, fun a ha => hf _ (h4 a ha), h5⟩, hr, h.sel, h.W⟩
theorem IsR2.gr (h : IsR2 w F r D P) : IsR w F r D := by
  obtain ⟨A, c, B, e, l, h1, h2, _⟩ := h.ex
  exact ⟨⟨A, c, _, _, h1, rfl, h2⟩, h.far⟩
theorem atI_at (W : WfD D) {j : Nat} {nd : DN} (h : D[j]? = some nd) : atI D nd.id = (j : Int) := by unfold atI; rw [W.pos_eq h]
/-- Up -/
theorem ref12_Up (H : IsR2 w F r D P) (hD : D.length ≤ 10000) (h : HT) (hK : ∀ A c w' l, ChainL D P h l → HRow w' w.heap.size A l.length c l → Kept Nil w w' → K (.slice A l.length c) w') :
    Ret Tryd.prog ref12_Index_Up.id #[.pointer (some ⟨r, 0, none⟩), .agg h.1] w K := by
  have W := H.W
  have hpar := H.sel.par
  refine ref12_Index_Up.of ?_
  unfold ref12_Index_Up.W
  intro w3 w4
  have k3 : Kept Nil w w3 := (Kept.refl _ _).alloc _
  have hb3 : w3.heap[w.heap.size]? = some (.cells h.1 T_api_Hash (0, 0)) := new_blk w _
  have k4 : Kept Nil w3 w4 := (Kept.refl _ _).drew
  clear_value w4
  have hb4 := k4.heap hb3 (fun h => h)
  have k04 := k3.trans k4 (fun _ _ h => h)
  refine ⟨h.1, ⟨h.2.1, Cells.blk hb4⟩, ?_⟩
  rw [add_zero]
  refine ref_At (H.gr.same k04) (by omega) h fun w8 k8 => ⟨_, rfl, ?_⟩
  have k08 := k04.trans k8 (fun _ _ h => h)
  have hb8 := k8.heap hb4 (fun h => h)
  have s08 := k08.size
  have l08 := lt_blk hb8
  by_cases hm : ¬ h ∈ ids D
  · have hneg := atI_neg.2 hm
    refine ref12_Index_Up.loop1 (I := fun s v => s = (none, 0, 0, atI D h) ∧ v = w8) (μ := fun _ _ => 0) (s := (none, 0, 0, atI D h)) ⟨rfl, rfl⟩ ?_
    rintro s v ⟨rfl, rfl⟩
    refine Split.no (decide_eq_false (by simp only; omega)) ?_
    simp only
    rw [roundQ_exit, ref12_Index_Up.x1_0]
    exact hK none 0 v [] (.inl ⟨hm, rfl⟩) (HRow.nil _ _) k08
  replace hm := Classical.not_not.1 hm
  obtain ⟨nd, hnd, hid⟩ := ids_mem.1 hm
  obtain ⟨i, hi⟩ := List.mem_iff_getElem?.1 hnd
  have hil := (List.getElem?_eq_some_iff.1 hi).1
  obtain ⟨ks, hks⟩ := Up.ex hpar i (by rw [H.sel.len]; exact hil)
  have hkl := hks.len hpar
  refine ref12_Index_Up.loop1 (I := fun s v => ∃ (k : Nat) (nk : DN) (dn rs : List Nat) (A : Option Addr) (c : Nat), s = (A, dn.length, c, (k : Int)) ∧ ks = dn ++ rs ∧ Up P k rs ∧ D[k]? = some nk ∧ v.heap[w.heap.size]? = some (.cells nk.id.1 T_api_Hash (0, 0)) ∧ HRow v w8.heap.size A dn.length c (dn.map (idAt D)) ∧ Kept (· = w.heap.size) w8 v)
    (μ := fun s _ => s.2.2.2.toNat) (s := (none, 0, 0, atI D h)) ⟨i, nd, [], ks, none, 0, by rw [← hid, atI_at W hi]; rfl, rfl, hks, hi, by rw [hid]; exact hb8, HRow.nil _ _, Kept.refl _ _⟩ ?_
  rintro s v ⟨k, nk, dn, rs, A, c, rfl, hsp, hur, hnk, hbv, row, kv⟩
  have hklt := (List.getElem?_eq_some_iff.1 hnk).1
  have k0v : Kept Nil w v := k08.trans kv (fun q hq e => by omega)
  have sv := kv.size
  refine Split.yes (decide_eq_true (by simp only; omega)) ⟨nk.id.1, ⟨nk.id.2.1, Cells.blk hbv⟩, nk.id.2.1, ?_⟩
  intro w16
  have k16 : Kept Nil v w16 := (Kept.refl _ _).alloc _
  have hb16 : HS w16 (some ⟨v.heap.size, 0, none⟩) 1 [nk.id] := hbox v nk.id
  clear_value w16
  have hdl : dn.length ≤ ks.length := by rw [hsp]; simp
  have s16 := k16.size
  obtain ⟨A2, c2, w18, hr18, row18, hg18, _⟩ := append_hs (cx := 1) T_sl_api_Hash (Row.keep row k16 (fun _ _ h => h)) hb16 (by omega) (by omega)
  have k18 : Kept (· = w.heap.size) w8 w18 := (kv.trans k16 (fun _ _ h => h.elim)).grown hg18 (fun q hq hlt => by have := (Row.blk row hq).1; omega)
  have k018 : Kept Nil w w18 := k08.trans k18 (fun q hq e => by omega)
  have hrowid : dn.map (idAt D) ++ [nk.id] = (dn ++ [k]).map (idAt D) := by simp [idAt_get hnk]
  rw [hrowid] at row18
  have hb18 : w18.heap[w.heap.size]? = some (.cells nk.id.1 T_api_Hash (0, 0)) := by
    have hkg : Kept (fun q => blkOf A = some q) w16 w18 := Kept.grown (Kept.refl _ _) hg18 (fun q hq _ => hq)
    exact hkg.heap (k16.heap hbv (fun h => h)) (fun e => by have := (Row.blk row e).1; omega)
  refine ⟨A2, _, c2, w18, hr18, ?_⟩
  cases hur with
  | root =>
    refine Split.yes rfl ?_
    simp only
    rw [roundQ_exit, ref12_Index_Up.x1_0]
    have e : (ks.map (idAt D)).length = dn.length + 1 := by rw [hsp]; simp
    have := hK A2 c2 w18 (ks.map (idAt D)) (.inr ⟨i, nd, ks, hi, hid, hks, rfl⟩) (by rw [e, hsp]; exact Row.base row18 (fun b hb => Nat.le_trans s08 (Row.blk row18 hb).1)) k018
    rwa [e] at this
  | @step _ j rs' hj hu' =>
    have hjk := (Tr.kids_lt hpar (Tr.mem_kids.2 hj)).1
    refine Split.no (by simp only [beq_eq_false_iff_ne, ne_eq]; omega) ?_
    obtain ⟨A0, c0, B, e, l, h1, h2, h3, h4, h5⟩ := (H.same k018).ex
    obtain ⟨nj, hnj⟩ : ∃ nj, D[j]? = some nj := ⟨_, List.getElem?_eq_getElem (by omega)⟩
    refine ⟨B, D.length, e, by rw [add_at, cell_blk h1]; rfl, ?_⟩
    refine h3.load (i := (k : Int)) (by omega) (by rw [Int.toNat_natCast]; exact h5.2 k j nj hj hnj) ?_
    obtain ⟨g1, g2, g3⟩ := set_box hb18 (cs := nj.id.1) (by rw [nj.id.2.1, nk.id.2.1])
    refine ⟨⟨nj.id.2.1, nj.id.2.one, fun q hq => g1 q (by rw [nj.id.2.1]; exact hq)⟩, ?_⟩
    intro w25 w26
    replace g2 : w25.heap[w.heap.size]? = some (.cells nj.id.1 T_api_Hash (0, 0)) := g2
    replace g3 : Kept (· = w.heap.size) w18 w25 := g3
    have k26 : Kept Nil w25 w26 := (Kept.refl _ _).drew
    clear_value w26 w25
    have g2' := k26.heap g2 (fun h => h)
    have k826 : Kept (· = w.heap.size) w8 w26 := (k18.trans g3 (fun _ _ h => h)).trans k26 (fun _ _ h => h.elim)
    have k026 : Kept Nil w w26 := k08.trans k826 (fun q hq e => by omega)
    refine ⟨nj.id.1, ⟨nj.id.2.1, Cells.blk g2'⟩, ?_⟩
    rw [add_zero]
    refine ref_At (H.gr.same k026) (by omega) nj.id fun w30 k30 => ⟨_, rfl, ?_⟩
    rw [atI_at W hnj]
    refine ⟨(A2, dn.length + 1, c2, (j : Int)), rfl, ⟨j, nj, dn ++ [k], rs', A2, c2, by simp, by rw [hsp]; simp, hu', hnj, k30.heap g2' (fun h => h), ?_, k826.trans k30 (fun _ _ h => h.elim)⟩, by simp only; omega⟩
    rw [List.length_append]
    exact Row.keep (Row.keep (Row.keep row18 g3 (fun q hq e => by have := (Row.blk row18 hq).1; omega)) k26 (fun _ _ h => h)) k30 (fun _ _ h => h)
/-- Chain -/
theorem ref12_Chain (H : IsR2 w F r D P) (hD : D.length ≤ 10000) (a b : HT) (hK : ∀ w' (x : Bool), (x = true ↔ Ch D P a b) → Kept Nil w w' → K (.bool x) w') :
    Ret Tryd.prog ref12_Index_Chain.id #[.pointer (some ⟨r, 0, none⟩), .agg a.1, .agg b.1] w K := by
  refine ref12_Index_Chain.of ?_
  unfold ref12_Index_Chain.W
  intro w4 w5 w6
  have k4 : Kept Nil w w4 := (Kept.refl _ _).alloc _
  have ha4 : w4.heap[w.heap.size]? = some (.cells a.1 T_api_Hash (0, 0)) := new_blk w _
  have k5 : Kept Nil w4 w5 := (Kept.refl _ _).alloc _
  have hb5 : w5.heap[w4.heap.size]? = some (.cells b.1 T_api_Hash (0, 0)) := new_blk w4 _
  have k6 : Kept Nil w5 w6 := (Kept.refl _ _).drew
  clear_value w6
  have ha6 := (k5.trans k6 (fun _ _ h => h)).heap ha4 (fun h => h)
  have hb6 := k6.heap hb5 (fun h => h)
  have k06 := (k4.trans k5 (fun _ _ h => h)).trans k6 (fun _ _ h => h)
  refine ⟨b.1, ⟨b.2.1, Cells.blk hb6⟩, a.1, ⟨a.2.1, Cells.blk ha6⟩, ?_⟩
  refine ref12_Up (H.same k06) hD b fun A10 c10 w10 l hc row10 k10 => ⟨A10, _, c10, rfl, ⟨a.1, rfl, a.2.1, Cells.blk (k10.heap ha6 (fun h => h))⟩, ?_⟩
  have k010 := k06.trans k10 (fun _ _ h => h)
  have hll : l.length ≤ 1000000 := by
    rcases hc with ⟨_, rfl⟩ | ⟨i, nd, ks, h1, _, h3, rfl⟩
    · simp
    · have := h3.len H.sel.par
      have := (List.getElem?_eq_some_iff.1 h1).1
      simp only [List.length_map]
      omega
  refine ref_In a (HRow.hs row10) hll fun w13 k13 => ⟨_, rfl, hK w13 _ ?_ (k010.trans k13 (fun _ _ h => h))⟩
  rw [decide_eq_true_iff]
  exact hc.mem H.W H.sel
end
end Go.Proofs.YtgfkpemnkmebkaaDoor
/-
  The document's index: New, Add.
-/
namespace Go.Proofs.YtgfkpemnkmebkaaDoor
open Go Go.Lite Go.RowKit

theorem set1 (w : World) (r j : Nat) (v : Value) : setCells w ((⟨r, 0, none⟩ : Addr).add j) [v] 0 = w.setCell ⟨r, j, none⟩ v := by
  simp only [setCells]
  rw [add_at, add_at, Nat.add_zero, Nat.zero_add]
theorem hash_set {v : World} {b : Nat} {z : Array Value} {t : TypeId} (s : HT) (h : v.heap[b]? = some (.cells z t (0, 0))) (hz : z.size = 32) :
    (s.1.size = 32 ∧ (∀ c ∈ s.1.toList, c.oneCell' = true) ∧ ∀ j, j < 32 → Wr v ((⟨b, 0, none⟩ : Addr).add j)) ∧ (setCells v (⟨b, 0, none⟩ : Addr) s.1.toList 0).heap[b]? = some (.cells s.1 t (0, 0)) ∧ Kept (· = b) v (setCells v (⟨b, 0, none⟩ : Addr) s.1.toList 0) := by
  obtain ⟨h1, h2, h3⟩ := set_box h (cs := s.1) (by rw [s.2.1]; exact hz)
  exact ⟨⟨s.2.1, s.2.one, fun j hj => h1 j (by rw [s.2.1]; exact hj)⟩, h2, h3⟩
theorem Sel.one (r : HT) : Sel [⟨r, []⟩] [-1] := ⟨rfl, rfl, fun i p nd hi hp => by
  cases i with
  | zero => omega
  | succ i => simp at hp⟩
section
variable {w w' : World} {F F' S : Nat → Prop} {r : Nat} {D : DG} {P : List Int} {K : Value → World → Prop}
theorem ref12_New_ok (root : HT) (hK : ∀ v r F, IsR2 v F r [⟨root, []⟩] [-1] → (∀ k, F k → w.heap.size ≤ k ∧ k < v.heap.size) → w.heap.size ≤ r → Kept Nil w v → K (.pointer (some ⟨r, 0, none⟩)) v) :
    Ret Tryd.prog ref12_New.id #[.agg root.1] w K := by
  refine ref12_New.of ?_
  unfold ref12_New.W
  intro w2
  have k2 : Kept Nil w w2 := (Kept.refl _ _).alloc _
  have hb2 : w2.heap[w.heap.size]? = some (.cells root.1 T_api_Hash (0, 0)) := new_blk w _
  clear_value w2
  have hsz : (root.1.push (.slice none 0 0)).size = 33 := by rw [Array.size_push, root.2.1]
  refine ⟨root.1, ⟨root.2.1, Cells.blk hb2⟩, ?_⟩
  rw [builtRef]
  refine Is.mk rfl ⟨hsz, ?_⟩
  intro w5
  have h5 : w5.heap[w2.heap.size]? = some (.cells (root.1.push (.slice none 0 0)) T_plexusref10_Node (0, 0)) := by
    have := new_blk w2 (.cells (root.1.push (.slice none 0 0)) T_plexusref10_Node)
    show (w2.alloc (.cells ((root.1.push (.slice none 0 0)).toList ++ []).toArray T_plexusref10_Node)).heap[w2.heap.size]? = _
    rw [List.append_nil, Array.toArray_toList]
    exact this
  have k5 : Kept Nil w2 w5 := (Kept.refl _ _).alloc _
  clear_value w5
  refine ⟨rfl, ?_⟩
  intro w6
  have h6 : w6.heap[w5.heap.size]? = some (.cells hnull.1 T_api_Hash (0, 0)) := new_blk w5 _
  have k6 : Kept Nil w5 w6 := (Kept.refl _ _).alloc _
  clear_value w6
  intro w7
  have h7 : w7.heap[w6.heap.size]? = some (.cells #[.slice (some ⟨w2.heap.size, 0, none⟩) 1 1, .slice (some ⟨w5.heap.size, 0, none⟩) 1 1] T_plexusref12_Index (0, 0)) := new_blk w6 _
  have k7 : Kept Nil w6 w7 := (Kept.refl _ _).alloc _
  clear_value w7
  have s2 := k2.size
  have s5 := k5.size
  have s6 := k6.size
  have l5 := lt_blk h5
  have l6 := lt_blk h6
  have h57 := k7.heap (k6.heap h5 (fun h => h)) (fun h => h)
  have h67 := k7.heap h6 (fun h => h)
  have l67 := lt_blk h67
  refine hK w7 _ (fun k => k = w2.heap.size ∨ k = w5.heap.size) ⟨⟨_, _, _, _, [hnull], h7, ⟨rfl, fun i nd hi => ?_⟩, HS.one h67, fun a ha => by cases ha; exact .inr rfl, ⟨rfl, fun i j m hi hj => ?_⟩⟩, fun e => by omega, Sel.one root, WfD.root root⟩ (fun k e => by omega) (by omega) (((k2.trans k5 (fun _ _ h => h)).trans k6 (fun _ _ h => h)).trans k7 (fun _ _ h => h))
  · cases i with
    | zero =>
      simp at hi
      subst hi
      refine ⟨_, none, 0, 0, rfl, lt_blk h57, .inl rfl, fun j u hj => ?_, HS.nil _ _, fun b hb => by cases hb⟩
      rw [Nat.zero_mul, add_zero, add_at, Nat.zero_add, cell_blk h57]
      exact hj
    | succ i => simp at hi
  · cases i with
    | zero => simp at hi
    | succ i => simp at hi
theorem SelL.snoc {l : List HT} (h : SelL D P l) (hs : Sel D P) (W : WfD D) {nd : DN} {j : Nat} {mj : DN} (hj : D[j]? = some mj) : SelL (D ++ [nd]) (P ++ [(j : Int)]) (l ++ [mj.id]) := by
  have hjl := (List.getElem?_eq_some_iff.1 hj).1
  refine ⟨by simp [h.1], fun i k m hi hm => ?_⟩
  by_cases hil : i < P.length
  · rw [List.getElem?_append_left hil] at hi
    have hil' : i < D.length := by rw [← hs.len]; exact hil
    rw [List.getElem?_append_left (by rw [h.1]; exact hil')]
    have hpar := hs.par
    have hk : k < D.length := by
      rcases Nat.eq_zero_or_pos i with rfl | h0
      · rw [hpar.root] at hi; simp only [Option.some.injEq] at hi; omega
      · obtain ⟨j', h1, h2⟩ := hpar.up i _ h0 hi
        omega
    rw [List.getElem?_append_left hk] at hm
    exact h.2 i k m hi hm
  · have hil2 := (List.getElem?_eq_some_iff.1 hi).1
    have e : i = P.length := by simp at hil2; omega
    subst e
    simp at hi
    have : k = j := by omega
    subst this
    rw [List.getElem?_append_left hjl, hj] at hm
    cases hm
    rw [hs.len, ← h.1]
    simp
theorem ref12_Add (H : IsR2 w F r D P) (hF : ∀ k, F k → k < w.heap.size) (hD : D.length ≤ 5000) {h s : HT} {lp : List HT} {A : Option Addr} {n c : Nat} (hl : HS w A n lp) (hn : n ≤ 100000)
    (hK : ∀ w', IsR2 w' (fun k => F k ∨ (w.heap.size ≤ k ∧ k < w'.heap.size)) r (addXD D h s lp) (addXP D P h s lp) → Kept (· = r) w w' → K (.int .i64 (addXC D h s lp)) w') :
    Ret Tryd.prog ref12_Index_Add.id #[.pointer (some ⟨r, 0, none⟩), .agg h.1, .agg s.1, .slice A n c] w K := by
  have hrlt := H.lt
  have W := H.W
  have hno : ∀ w', Kept Nil w w' → ∀ e, addXC D h s lp = e → e ≠ 0 → K (.int .i64 e) w' := fun w' k e he hne => by
    have := hK w' ?_ (k.mono fun _ _ h => h.elim)
    · rw [he] at this; exact this
    · unfold addXD addXP
      rw [if_neg (by rw [he]; exact hne), if_neg (by rw [he]; exact hne)]
      exact (H.same k).mono (fun _ h => .inl h) (fun e => e.elim H.far (fun h => by omega))
  refine ref12_Index_Add.of ?_
  unfold ref12_Index_Add.W
  intro w5 w6
  have k5 : Kept Nil w w5 := (Kept.refl _ _).alloc _
  have hi5 : w5.heap[w.heap.size]? = some (.cells h.1 T_api_Hash (0, 0)) := new_blk w _
  have k6 : Kept Nil w5 w6 := (Kept.refl _ _).alloc _
  have hs6 : w6.heap[w5.heap.size]? = some (.cells s.1 T_api_Hash (0, 0)) := new_blk w5 _
  clear_value w6
  have hi6 := k6.heap hi5 (fun h => h)
  have k06 := k5.trans k6 (fun _ _ h => h)
  have s5 := k5.size
  have s6 := k6.size
  have l5 := lt_blk hi5
  have l6 := lt_blk hs6
  clear_value w5
  obtain ⟨A0, c0, B0, e0, sl, htop, hns, hsl, hB0, hSel⟩ := H.ex
  have htop6 := k06.heap htop (fun h => h)
  refine Is.mk rfl ⟨#[.slice A0 D.length c0], ⟨rfl, fun j v hj => ?_⟩, ?_⟩
  · cases j with
    | zero =>
      rw [add_zero, add_zero, cell_blk htop6]
      simpa using hj
    | succ j => simp at hj
  intro w9
  have h9 : w9.heap[w6.heap.size]? = some (.cells #[.slice none 0 0] T_plexusref10_Graph (0, 0)) := new_blk w6 _
  have k9 : Kept Nil w6 w9 := (Kept.refl _ _).alloc _
  clear_value w9
  obtain ⟨g1, g2, g3⟩ := set_box h9 (cs := #[.slice A0 D.length c0]) rfl
  refine ⟨⟨rfl, fun u hu => ?_, fun j hj => g1 j hj⟩, ?_⟩
  · simp at hu
    subst hu
    rfl
  intro w12
  replace g2 : w12.heap[w6.heap.size]? = some (.cells #[.slice A0 D.length c0] T_plexusref10_Graph (0, 0)) := g2
  replace g3 : Kept (· = w6.heap.size) w9 w12 := g3
  clear_value w12
  have k612 : Kept Nil w6 w12 := k9.trans g3 (fun k hk e => by omega)
  have k012 := k06.trans k612 (fun _ _ h => h)
  refine ⟨h.1, ⟨h.2.1, Cells.blk (k612.heap hi6 (fun h => h))⟩, ?_⟩
  have hR : IsR w12 F w6.heap.size D := ⟨⟨A0, c0, _, _, g2, rfl, hns.same k012⟩, fun e => by have := hF _ e; omega⟩
  have s12 := k012.size
  refine ref_Add hR W (by omega) (hl.same k012) (by omega) fun w15 hR15 k15 => ⟨_, rfl, ?_⟩
  have k015 : Kept Nil w w15 := k012.trans k15 (fun k hk e => by omega)
  by_cases hC : addC D h lp ≠ 0
  · refine Split.yes (by simpa using hC) ?_
    refine hno w15 k015 _ ?_ hC
    unfold addXC
    rw [if_neg hC]
  replace hC := Classical.not_not.1 hC
  refine Split.no (by rw [hC]; rfl) ?_
  have hs15 : w15.heap[w5.heap.size]? = some (.cells s.1 T_api_Hash (0, 0)) := k15.heap (k612.heap hs6 (fun h => h)) (by omega)
  refine ⟨s.1, ⟨s.2.1, Cells.blk hs15⟩, ref_In s (hl.same k015) (by omega) fun w19 k19 => ⟨_, rfl, ?_⟩⟩
  have k019 := k015.trans k19 (fun _ _ h => h)
  by_cases hsm : ¬ s ∈ lp
  · refine Split.yes (by rw [decide_eq_false hsm]; rfl) ?_
    refine hno w19 k019 2 ?_ (by omega)
    unfold addXC
    rw [if_pos hC, if_neg hsm]
  replace hsm := Classical.not_not.1 hsm
  refine Split.no (by rw [decide_eq_true hsm]; rfl) ?_
  have eX : addXC D h s lp = 0 := by unfold addXC; rw [if_pos hC, if_pos hsm]
  obtain ⟨hin, hne, hnd, hall⟩ := addC_ok hC
  obtain ⟨mj, hmj, hms⟩ := ids_mem.1 (hall s (mem_srt.2 hsm))
  obtain ⟨j, hj⟩ := List.mem_iff_getElem?.1 hmj
  have eP : addXP D P h s lp = P ++ [(j : Int)] := by
    unfold addXP
    rw [if_pos eX, ← hms, W.pos_eq hj]
    rfl
  have eD : addXD D h s lp = D ++ [⟨h, srt lp⟩] := by unfold addXD; rw [if_pos eX]
  rw [addD_yes hC] at hR15
  obtain ⟨A1, c1, cs1, t1, h1, hc1, hns1⟩ := (hR15.same k19).ex
  rw [List.length_append, List.length_singleton] at hns1 hc1
  have hg19 : w19.cell? (⟨w6.heap.size, 0, none⟩ : Addr) = some (.slice A1 (D.length + 1) c1) := by rw [cell_blk h1]; exact hc1
  have sz1 := k019.size
  have htop19 := k019.heap htop (fun h => h)
  refine ⟨#[.slice A1 (D.length + 1) c1], ⟨rfl, fun i v hi => ?_⟩, Is.mk rfl ⟨⟨rfl, fun u hu => ?_, fun i hi => ?_⟩, ?_⟩⟩
  · cases i with
    | zero =>
      rw [add_zero, hg19]
      simpa using hi
    | succ i => simp at hi
  · simp at hu
    subst hu
    rfl
  · have : i = 0 := by omega
    subst this
    rw [add_zero, add_zero]
    exact wr_blk htop19 (by simp)
  intro w25 w26
  have hw25 : w25.heap[r]? = some (.cells #[.slice A1 (D.length + 1) c1, .slice B0 D.length e0] T_plexusref12_Index (0, 0)) := by
    show (setCells w19 ((⟨r, 0, none⟩ : Addr).add 0) [.slice A1 (D.length + 1) c1] 0).heap[r]? = _
    rw [set1, set_blk htop19]
    rfl
  have k25 : Kept (· = r) w19 w25 := by
    show Kept (· = r) w19 (setCells w19 ((⟨r, 0, none⟩ : Addr).add 0) [.slice A1 (D.length + 1) c1] 0)
    rw [add_zero]
    exact setCells_kept _ _ _ _
  have k26 : Kept Nil w25 w26 := (Kept.refl _ _).drew
  clear_value w26 w25
  have hw26 := k26.heap hw25 (fun h => h)
  have k1926 : Kept (· = r) w19 w26 := k25.trans k26 (fun _ _ h => h.elim)
  have hsl26 : HS w26 B0 D.length sl := (hsl.same k019).keep k1926 (fun a ha e => H.far (e ▸ hB0 a ha))
  have hs26 : w26.heap[w5.heap.size]? = some (.cells s.1 T_api_Hash (0, 0)) := k1926.heap (k19.heap hs15 (fun h => h)) (fun e => by omega)
  refine Is.mk rfl ⟨B0, D.length, e0, by rw [add_at, cell_blk hw26]; rfl, s.1, ⟨s.2.1, Cells.blk hs26⟩, ?_⟩
  -- what both orders come to
  have fin : ∀ (v : World) (A2 : Option Addr) (c2 : Nat), Kept Nil w26 v → HRow v w26.heap.size A2 (D.length + 1) c2 (sl ++ [s]) →
      Is (some (⟨r, 0, none⟩ : Addr)) fun a => Wr v (a.add 1) ∧ K (.int .i64 0) (v.setCell (a.add 1) (.slice A2 (D.length + 1) c2)) := fun v A2 c2 kv row => by
    refine Is.mk rfl ?_
    rw [add_at]
    have hv := kv.heap hw26 (fun h => h)
    have kf : Kept (· = r) v (v.setCell ⟨r, 0 + 1, none⟩ (.slice A2 (D.length + 1) c2)) := Kept.setCell (S := fun k => k = r) (Kept.refl _ v) (p := ⟨r, 0 + 1, none⟩) (fun _ => rfl) _
    refine ⟨wr_blk hv (by simp), ?_⟩
    have kall : Kept (· = r) w (v.setCell ⟨r, 0 + 1, none⟩ (.slice A2 (D.length + 1) c2)) := (((k019.mono (S' := (· = r)) (fun _ _ h => h.elim)).trans k1926 (fun _ _ h => h)).trans kv (fun _ _ h => h.elim)).trans kf (fun _ _ h => h)
    have := hK (v.setCell ⟨r, 0 + 1, none⟩ (.slice A2 (D.length + 1) c2)) ?_ kall
    · rw [eX] at this
      exact this
    rw [eD, eP]
    have hbA : ∀ b, blkOf A2 = some b → w26.heap.size ≤ b ∧ b < v.heap.size := fun b hb => by
      obtain ⟨q1, cur, q2⟩ := Row.blk row hb
      exact ⟨q1, lt_blk q2⟩
    have s26 := k1926.size
    have sv := kv.size
    have sf := kf.size
    have k1526 : Kept (· = r) w15 w26 := (k19.mono (S' := (· = r)) (fun _ _ h => h.elim)).trans k1926 (fun _ _ h => h)
    refine ⟨⟨A1, c1, A2, c2, sl ++ [s], ?_, ?_, ?_, fun a ha => .inr ?_, ?_⟩, fun e => e.elim H.far (fun e => by omega), H.sel.snoc hj (by rw [hms]; exact mem_srt.2 hsm) (by have := (List.getElem?_eq_some_iff.1 hj).1; omega), W.snoc hin hall (SS_srt lp)⟩
    · rw [List.length_append, List.length_singleton, set_blk hv]
      rfl
    · rw [List.length_append, List.length_singleton]
      have hk' : Kept (· = r) w19 (v.setCell ⟨r, 0 + 1, none⟩ (.slice A2 (D.length + 1) c2)) := (k1926.trans kv (fun _ _ h => h.elim)).trans kf (fun _ _ h => h)
      refine (hns1.keep hk' fun k hk e => ?_).mono fun k hk => ?_
      · rcases hk with hk | hk
        · exact H.far (e ▸ hk)
        · omega
      · rcases hk with hk | hk
        · exact .inl hk
        · have := k19.size
          exact .inr ⟨by omega, by omega⟩
    · rw [List.length_append, List.length_singleton]
      exact (HRow.hs row).keep kf (fun a ha e => by have := hbA a.block (by rw [ha]; rfl); omega)
    · have := hbA a.block (by rw [ha]; rfl)
      exact ⟨by omega, by omega⟩
    · rw [← hms]
      exact hSel.snoc H.sel W hj
  have hcs : ∀ {u : World}, Kept Nil w26 u → ∃ cs : Array Value, (.agg s.1 : Value) = .agg cs ∧ cs.size = 32 ∧ Cells u (⟨w5.heap.size, 0, none⟩ : Addr) cs := fun k => ⟨s.1, rfl, s.2.1, Cells.blk (k.heap hs26 (fun h => h))⟩
  refine ⟨?_, ?_⟩
  · obtain ⟨A3, c3, w31, hr31, row31, hg31, hb31⟩ := append_hs (cx := e0) T_sl_api_Hash (HRow.nil w26 w26.heap.size) hsl26 (by omega) (Nat.le_refl _)
    rw [Nat.zero_add] at hr31 row31
    rw [List.nil_append] at row31
    have k31 : Kept Nil w26 w31 := Kept.growNew (Kept.refl _ _) hg31 (fun k hk => by cases hk)
    refine ⟨A3, _, c3, w31, hr31, hcs k31, s.2.1, ?_⟩
    intro w32
    have k32 : Kept Nil w31 w32 := (Kept.refl _ _).alloc _
    have hx32 : HS w32 (some ⟨w31.heap.size, 0, none⟩) 1 [s] := hbox w31 s
    clear_value w32
    have s32 := k32.size
    have s31 := k31.size
    obtain ⟨A4, c4, w34, hr34, row34, hg34, hb34⟩ := append_hs (cx := 1) T_sl_api_Hash (Row.keep row31 k32 (fun _ _ h => h)) hx32 (by omega) (by omega)
    have k34 : Kept Nil w26 w34 := Kept.growNew (k31.trans k32 (fun _ _ h => h)) hg34 (fun k hk => (Row.blk row31 hk).1)
    exact ⟨A4, _, c4, w34, hr34, fin w34 A4 c4 k34 row34⟩
  · refine ⟨s.2.1, ?_⟩
    intro w37
    have k37 : Kept Nil w26 w37 := (Kept.refl _ _).alloc _
    have hx37 : HS w37 (some ⟨w26.heap.size, 0, none⟩) 1 [s] := hbox w26 s
    clear_value w37
    have s37 := k37.size
    refine ⟨by rw [add_at, cell_blk (k37.heap hw26 (fun h => h))]; rfl, ?_⟩
    obtain ⟨A3, c3, w39, hr39, row39, hg39, hb39⟩ := append_hs (cx := e0) T_sl_api_Hash (HRow.nil w37 w37.heap.size) (hsl26.same k37) (by omega) (Nat.le_refl _)
    rw [Nat.zero_add] at hr39 row39
    rw [List.nil_append] at row39
    have k39 : Kept Nil w37 w39 := Kept.growNew (Kept.refl _ _) hg39 (fun k hk => by cases hk)
    have s39 := k39.size
    obtain ⟨A4, c4, w41, hr41, row41, hg41, hb41⟩ := append_hs (cx := 1) T_sl_api_Hash row39 (hx37.same k39) (by omega) (by omega)
    have k41 : Kept Nil w37 w41 := Kept.growNew k39 hg41 (fun k hk => (Row.blk row39 hk).1)
    exact ⟨A3, _, c3, w39, hr39, A4, _, c4, w41, hr41, fin w41 A4 c4 (k37.trans k41 (fun _ _ h => h)) (Row.base row41 (fun k hk => by have := (Row.blk row41 hk).1; omega))⟩
end
end Go.Proofs.YtgfkpemnkmebkaaDoor
/-
  Steps of an index; few, all; both indexes side by side; begin.
-/
namespace Go.Proofs.YtgfkpemnkmebkaaDoor
open Go Go.Lite Go.RowKit

/-- a step: who, its selected parent, its parents -/
structure SN where
  id : HT
  sel : HT
  ps : List HT
/-- a slice of steps, to be read; F: where all that lies -/
structure Stp (w : World) (F : Nat → Prop) (A : Option Addr) (n : Nat) (l : List SN) : Prop where
  len : l.length = n
  at_ : ∀ (i : Nat) sn, l[i]? = some sn → ∃ a pA pn pc, A = some a ∧ F a.block ∧ Cells w (a.add (i * 65)) sn.id.1 ∧ Cells w ((a.add (i * 65)).add 32) sn.sel.1 ∧ w.cell? ((a.add (i * 65)).add 64) = some (.slice pA pn pc) ∧ HS w pA pn sn.ps ∧ ∀ b, pA = some b → F b.block
theorem Stp.keep {S F : Nat → Prop} {w w' : World} {A : Option Addr} {n : Nat} {l : List SN} (h : Stp w F A n l) (hk : Kept S w w') (hn : ∀ k, F k → ¬ S k) : Stp w' F A n l := ⟨h.len, fun i sn hi => by
  obtain ⟨a, pA, pn, pc, h1, h2, h3, h4, h5, h6, h7⟩ := h.at_ i sn hi
  exact ⟨a, pA, pn, pc, h1, h2, Cells.keep h3 hk (by rw [addr_block]; exact hn _ h2), Cells.keep h4 hk (by rw [addr_block, addr_block]; exact hn _ h2), hk.cell h5 (by rw [addr_block, addr_block]; exact hn _ h2), h6.keep hk (fun b hb => hn _ (h7 b hb)), h7⟩⟩
theorem Stp.same {F : Nat → Prop} {w w' : World} {A : Option Addr} {n : Nat} {l : List SN} (h : Stp w F A n l) (hk : Kept Nil w w') : Stp w' F A n l := h.keep hk (fun _ _ h => h)

def fewS (l : List SN) (most : Nat) : Prop := (∀ sn ∈ l, sn.ps.length ≤ 8) ∧ l.length ≤ most
section
variable {w w' v : World} {F FP FR S S2 F2 : Nat → Prop} {x r : Nat} {D D' : DG} {P P' : List Int} {K : Value → World → Prop}
theorem fewS_ok {A : Option Addr} {n c : Nat} {l : List SN} (hl : Stp w FP A n l) (hn : n < 9223372036854775808) (most : Nat) (hK : ∀ x : Bool, (x = true ↔ fewS l most) → K (.bool x) w) :
    Ret Tryd.prog law12_few.id #[.slice A n c, .int .i64 (most : Int)] w K := by
  have hlen := hl.len
  refine law12_few.of (law12_few.loop1 (I := fun s w' => w' = w ∧ ∃ i : Nat, s = (false, (i : Int)) ∧ i ≤ n ∧ ∀ nd ∈ l.take i, nd.ps.length ≤ 8) (μ := fun s _ => ((n : Int) - s.2).toNat) (s := (false, 0)) ⟨rfl, 0, rfl, Nat.zero_le _, by simp⟩ ?_)
  rintro s w' ⟨rfl, i, rfl, hi, hall⟩
  refine Split.dec (fun hil0 => ?_) (fun hge => ?_)
  · simp only at hil0
    have hil : i < n := by omega
    obtain ⟨nd, hnd⟩ : ∃ nd, l[i]? = some nd := ⟨_, List.getElem?_eq_getElem (by omega)⟩
    obtain ⟨a, pA, pn, pc, rfl, _, _, _, h5, hps, _⟩ := hl.at_ i nd hnd
    have hpl := hps.len
    refine ⟨⟨by omega, by omega⟩, pA, pn, pc, by rw [Int.toNat_natCast]; exact h5, ?_⟩
    refine Split.dec (fun hgt => ?_) (fun hle => ?_)
    · refine hK false ⟨(fun h => by cases h), fun h => ?_⟩
      have := h.1 nd (List.mem_of_getElem? hnd)
      omega
    · simp only
      rw [wrapI (x := (i : Int) + 1) (by omega) (by omega)]
      refine ⟨(false, (i : Int) + 1), rfl, ⟨rfl, i + 1, rfl, hil, fun md hm => ?_⟩, by simp only; omega⟩
      rw [List.take_add_one, hnd] at hm
      simp only [Option.toList_some, List.mem_append, List.mem_singleton] at hm
      rcases hm with hm | rfl
      · exact hall md hm
      · omega
  · simp only at hge
    rw [roundQ_exit, law12_few.x1_0]
    rw [List.take_of_length_le (by omega)] at hall
    refine hK _ ⟨fun h => ⟨hall, ?_⟩, fun h => decide_eq_true ?_⟩
    · have := of_decide_eq_true h; omega
    · have := h.2; omega

/-- the document's nodes, read through an index -/
theorem IsR2.go (H : IsR2 w F r D P) {k : Option Addr → Nat → Prop} (hk : ∀ A c, NS w F A D.length D → k A c) : ∃ A n c, w.cell? (((⟨r, 0, none⟩ : Addr).add 0).add 0) = some (.slice A n c) ∧ n = D.length ∧ k A c := by
  obtain ⟨A, c, B, e, l, h1, h2, _⟩ := H.ex
  exact ⟨A, D.length, c, by rw [add_zero, add_zero, cell_blk h1]; rfl, rfl, hk A c h2⟩
theorem all_ok (H : IsR2 w F r D P) (hD : D.length ≤ 10000) (other : HT) (hK : ∀ A c w', HRow w' w.heap.size A (D.length + 1) c (other :: ids D) → Kept Nil w w' → K (.slice A (D.length + 1) c) w') :
    Ret Tryd.prog law12_all.id #[.pointer (some ⟨r, 0, none⟩), .agg other.1] w K := by
  refine law12_all.of ?_
  unfold law12_all.W
  intro w3
  have k3 : Kept Nil w w3 := (Kept.refl _ _).alloc _
  have hb3 : w3.heap[w.heap.size]? = some (.cells other.1 T_api_Hash (0, 0)) := new_blk w _
  clear_value w3
  refine ⟨other.1, ⟨other.2.1, Cells.blk hb3⟩, other.2.1, ?_⟩
  intro w5
  have k5 : Kept Nil w3 w5 := (Kept.refl _ _).alloc _
  have hb5 : w5.heap[w3.heap.size]? = some (.cells (other.1.toList ++ []).toArray T_api_Hash (0, 0)) := new_blk w3 _
  clear_value w5
  have k05 := k3.trans k5 (fun _ _ h => h)
  have s3 := k3.size
  have row5 : HRow w5 w.heap.size (some ⟨w3.heap.size, 0, none⟩) 1 1 [other] := by
    have e : hcells [other] = (other.1.toList ++ []).toArray.toList := by simp [hcells]
    show Row _ _ _ _ _ _ _ (hcells [other])
    rw [e]
    exact Row.made hb5 (by omega) (by simp [other.2.1]) (by unfold maxLen; omega)
  refine law12_all.loop1 (I := fun s v => ∃ (i : Nat) (A : Option Addr) (c : Nat), s = (A, i + 1, c, (i : Int)) ∧ i ≤ D.length ∧ HRow v w.heap.size A (i + 1) c (other :: (ids D).take i) ∧ Kept Nil w v) (μ := fun s _ => ((D.length : Int) - s.2.2.2).toNat) (s := (some ⟨w3.heap.size, 0, none⟩, 1, 1, 0)) ⟨0, _, _, rfl, Nat.zero_le _, row5, k05⟩ ?_
  rintro s v ⟨i, A, c, rfl, hi, row, kv⟩
  obtain ⟨A0, n0, c0, hc0, rfl, hns⟩ := (H.same kv).go (k := fun A c => NS v F A D.length D) (fun _ _ h => h)
  refine Is.mk rfl ⟨A0, D.length, c0, hc0, Split.dec (fun hil0 => ?_) (fun hge => ?_)⟩
  · simp only at hil0
    have hil : i < D.length := by omega
    obtain ⟨nd, hnd⟩ : ∃ nd, D[i]? = some nd := ⟨_, List.getElem?_eq_getElem hil⟩
    refine Is.mk rfl ⟨A0, D.length, c0, hc0, ?_⟩
    refine hns.id (i := (i : Int)) (by omega) (by rw [Int.toNat_natCast]; exact hnd) ⟨nd.id.2.1, ?_⟩
    intro w16
    have k16 : Kept Nil v w16 := (Kept.refl _ _).alloc _
    have hx16 : HS w16 (some ⟨v.heap.size, 0, none⟩) 1 [nd.id] := hbox v nd.id
    clear_value w16
    have sv := kv.size
    have s16 := k16.size
    obtain ⟨A2, c2, w18, hr18, row18, hg18, _⟩ := append_hs (cx := 1) T_sl_api_Hash (Row.keep row k16 (fun _ _ h => h)) hx16 (by omega) (by omega)
    refine ⟨A2, _, c2, w18, hr18, ?_⟩
    simp only
    rw [wrapP (n := (i : Int)) (by omega) (by omega)]
    refine ⟨(A2, i + 1 + 1, c2, (i : Int) + 1), rfl, ⟨i + 1, A2, c2, rfl, hil, ?_, Kept.growNew (kv.trans k16 (fun _ _ h => h)) hg18 (fun k hk => (Row.blk row hk).1)⟩, by simp only; omega⟩
    have e : other :: (ids D).take (i + 1) = other :: (ids D).take i ++ [nd.id] := by rw [List.take_add_one, ids_get hnd]; rfl
    rw [e]
    exact row18
  · simp only at hge
    have : i = D.length := by omega
    subst this
    rw [roundQ_exit, law12_all.x1_0]
    rw [List.take_of_length_le (by rw [ids_len]; exact Nat.le_refl _)] at row
    exact hK A c v row kv

/-- Add of an index, whatever comes of it -/
theorem reach_AddI (h : IsX w S F x D P) (hD : D.length ≤ 5000) (hT : Tab w) (hTn : ¬ S (Tryd.tzL_ren.g 1)) {A : Option Addr} {n cx : Nat} {lp : List HT} (hl : HS w A n lp) (hn : n ≤ 5000) (hid s : HT)
    (hK : ∀ u S' F', IsX u S' F' x (addXD D hid s lp) (addXP D P hid s lp) → Kept S w u → (∀ k, S' k → S k ∨ w.heap.size ≤ k) → (∀ k, F' k → F k ∨ w.heap.size ≤ k) → K (.int .i64 (addXC D hid s lp)) u) :
    Ret Tryd.prog reach_Index_Add.id #[.pointer (some ⟨x, 0, none⟩), .agg hid.1, .agg s.1, .slice A n cx] w K := by
  obtain ⟨m, h1, h2⟩ := h
  refine reach_Add h1 hD hT (fun e => hTn (h2 _ (.inl e))) hl hn hid s (fun u k hc => ?_) (fun u S' F' hI k hS hF hc => ?_)
  · refine hK u S F ?_ (k.mono fun _ _ h => h.elim) (fun k h => .inl h) (fun k h => .inl h)
    unfold addXD addXP
    rw [if_neg hc, if_neg hc]
    exact ⟨m, h1.same k, h2⟩
  · have := hK u S' F' hI (k.mono fun k _ h => h2 k h) (fun k h => (hS k h).imp (h2 k) (fun h => h)) hF
    rw [hc] at this
    exact this

/-- the program's index and the document's, the same, apart in memory -/
structure BothX (w : World) (S F : Nat → Prop) (x : Nat) (FR : Nat → Prop) (r : Nat) (D : DG) (P : List Int) : Prop where
  X : IsX w S F x D P
  R : IsR2 w FR r D P
  rS : ¬ S r
  rF : ¬ F r
  fS : ∀ k, FR k → ¬ S k
  low : ∀ k, FR k → k < w.heap.size
theorem IsX.low (h : IsX w S F x D P) : ∃ S', IsX w S' F x D P ∧ ∀ k, S' k → S k ∧ k < w.heap.size :=
  let ⟨m, h1, h2⟩ := h; ⟨fun k => m.foot x k, ⟨m, h1, fun _ h => h⟩, fun k e => ⟨h2 k e, h1.low k (.inl e)⟩⟩
theorem BothX.keep {S0 : Nat → Prop} (B : BothX w S F x FR r D P) (k : Kept S0 w w') (hS : ∀ k, S k → ¬ S0 k) (hF : ∀ k, F k → ¬ S0 k) (hr : ¬ S0 r) (hR : ∀ k, FR k → ¬ S0 k) : BothX w' S F x FR r D P :=
  ⟨B.X.keep k hS hF, B.R.keep k hr hR, B.rS, B.rF, B.fS, fun k' h => Nat.lt_of_lt_of_le (B.low k' h) k.size⟩
theorem BothX.same (B : BothX w S F x FR r D P) (k : Kept Nil w w') : BothX w' S F x FR r D P := B.keep k (fun _ _ h => h) (fun _ _ h => h) (fun h => h) (fun _ _ h => h)
/-- behind the program's Add, and then the document's -/
theorem BothX.after (B : BothX w S F x FR r D P) (kv : Kept S w v) (hS2 : ∀ k, S2 k → S k ∨ w.heap.size ≤ k) (hF2 : ∀ k, F2 k → F k ∨ w.heap.size ≤ k) (hX2 : IsX v S2 F2 x D' P') :
    IsR2 v FR r D P ∧ ∀ u, IsR2 u (fun k => FR k ∨ (v.heap.size ≤ k ∧ k < u.heap.size)) r D' P' → Kept (· = r) v u → ∃ S3, (∀ k, S3 k → S2 k) ∧ BothX u S3 F2 x (fun k => FR k ∨ (v.heap.size ≤ k ∧ k < u.heap.size)) r D' P' := by
  have hr := B.R.lt
  have nS : ¬ S2 r := fun e => by
    rcases hS2 r e with h | h
    · exact B.rS h
    · omega
  have nF : ¬ F2 r := fun e => by
    rcases hF2 r e with h | h
    · exact B.rF h
    · omega
  refine ⟨B.R.keep kv B.rS B.fS, fun u hu ku => ?_⟩
  obtain ⟨S3, hX3, h3⟩ := hX2.low
  refine ⟨S3, fun k hk => (h3 k hk).1, hX3.keep ku (fun k hk e => nS (e ▸ (h3 k hk).1)) (fun k hk e => nF (e ▸ hk)), hu, fun e => nS (h3 _ e).1, nF, fun k hk hs => ?_, fun k hk => ?_⟩
  · obtain ⟨hs1, hs2⟩ := h3 k hs
    rcases hk with hk | ⟨hk, _⟩
    · rcases hS2 k hs1 with h | h
      · exact B.fS k hk h
      · have := B.low k hk; omega
    · omega
  · rcases hk with hk | hk
    · have := B.low k hk
      have := kv.size
      have := ku.size
      omega
    · exact hk.2

/-! what steps come to -/
structure DP where
  D : DG
  P : List Int
def stepX (a : DP) (s : SN) : DP := ⟨addXD a.D s.id s.sel s.ps, addXP a.D a.P s.id s.sel s.ps⟩
def buildX (root : HT) (l : List SN) : DP := l.foldl stepX ⟨[⟨root, []⟩], [-1]⟩
theorem addXD_len (D : DG) (h s : HT) (l : List HT) : (addXD D h s l).length ≤ D.length + 1 := by
  unfold addXD
  split
  · simp
  · omega
theorem stepX_len : ∀ (l : List SN) (a : DP), (l.foldl stepX a).D.length ≤ a.D.length + l.length
  | [], a => Nat.le_refl _
  | s :: l, a => by
    have h1 := stepX_len l (stepX a s)
    have h2 : (stepX a s).D.length ≤ a.D.length + 1 := addXD_len _ _ _ _
    rw [List.foldl_cons, List.length_cons]
    omega
theorem buildX_len (root : HT) (l : List SN) : (buildX root l).D.length ≤ 1 + l.length := by
  have := stepX_len l ⟨[⟨root, []⟩], [-1]⟩
  simpa [buildX] using this
theorem stepX_snoc {a : DP} {l : List SN} {i : Nat} {s : SN} (h : l[i]? = some s) : (l.take (i + 1)).foldl stepX a = stepX ((l.take i).foldl stepX a) s := by
  rw [List.take_add_one, h]
  simp

theorem hs_keep {S : Nat → Prop} {pA : Option Addr} {pn : Nat} {ps : List HT} (h : HS w pA pn ps) (k : Kept S w w') (hs : ps ≠ [] → ∀ a, pA = some a → ¬ S a.block) : HS w' pA pn ps := by
  by_cases h0 : ps = []
  · subst h0
    have := h.len
    simp at this
    subst this
    exact HS.nil _ _
  · exact h.keep k (hs h0)
theorem hs_lt {pA : Option Addr} {pn : Nat} {ps : List HT} (h : HS w pA pn ps) (h0 : ps ≠ []) : ∀ a, pA = some a → a.block < w.heap.size := fun a ha => by
  obtain ⟨y, hy⟩ : ∃ y, ps[0]? = some y := ⟨_, List.getElem?_eq_getElem (by
    rcases Nat.eq_zero_or_pos ps.length with e | e
    · exact absurd (List.length_eq_zero_iff.1 e) h0
    · exact e)⟩
  obtain ⟨a', ha', hlt, _⟩ := h.at_ 0 y hy
  rw [ha] at ha'
  cases ha'
  exact hlt
/-- Add in both, one behind the other -/
theorem both_add (B : BothX v S F x FR r D P) (hD : D.length ≤ 4000) (hT : Tab v) (hTS : ¬ S (Tryd.tzL_ren.g 1)) {pA : Option Addr} {pn cx : Nat} {ps : List HT} (hps : HS v pA pn ps) (hpn : pn ≤ 1000) (hpS : ps ≠ [] → ∀ a, pA = some a → ¬ S a.block) (hid s : HT)
    (hK : ∀ u, Kept S v u → (∀ (c' : Nat) (K' : Value → World → Prop), (∀ t S' F' FR', BothX t S' F' x FR' r (addXD D hid s ps) (addXP D P hid s ps) → Kept (fun k => S k ∨ k = r) v t → (∀ k, S' k → S k ∨ v.heap.size ≤ k) → (∀ k, F' k → F k ∨ v.heap.size ≤ k) → (∀ k, FR' k → FR k ∨ v.heap.size ≤ k) → K' (.int .i64 (addXC D hid s ps)) t) →
        Ret Tryd.prog ref12_Index_Add.id #[.pointer (some ⟨r, 0, none⟩), .agg hid.1, .agg s.1, .slice pA pn c'] u K') → K (.int .i64 (addXC D hid s ps)) u) :
    Ret Tryd.prog reach_Index_Add.id #[.pointer (some ⟨x, 0, none⟩), .agg hid.1, .agg s.1, .slice pA pn cx] v K := by
  refine reach_AddI B.X (by omega) hT hTS hps (by omega) hid s fun u S2 F2 hX2 ku hS2 hF2 => hK u ku ?_
  intro c' K' hK'
  obtain ⟨hR, haft⟩ := B.after ku hS2 hF2 hX2
  have su := ku.size
  refine ref12_Add hR (fun k hk => Nat.lt_of_lt_of_le (B.low k hk) su) (by omega) (hs_keep hps ku hpS) (by omega) fun t hRt kt => ?_
  obtain ⟨S3, h3, hB⟩ := haft t hRt kt
  exact hK' t S3 F2 _ hB ((ku.mono (S' := fun k => S k ∨ k = r) (fun _ _ h => .inl h)).trans kt (fun _ _ h => .inr h)) (fun k hk => hS2 k (h3 k hk)) hF2 (fun k hk => hk.imp (fun h => h) (fun h => by omega))

/-- the steps, at the beginning -/
def BIX (w : World) (root : HT) (l : List SN) (x r : Nat) : Option Addr × Option Addr × Bool × Int → World → Prop := fun s v => ∃ (i : Nat) (S F FR : Nat → Prop), s = (none, none, false, (i : Int)) ∧ i ≤ l.length ∧ BothX v S F x FR r (buildX root (l.take i)).D (buildX root (l.take i)).P ∧ Kept Nil w v ∧ (∀ k, S k → w.heap.size ≤ k) ∧ (∀ k, F k → w.heap.size ≤ k) ∧ (∀ k, FR k → w.heap.size ≤ k) ∧ w.heap.size ≤ r
theorem beginX_ok {A : Option Addr} {n c : Nat} {l : List SN} (hl : Stp w FP A n l) (hn : n ≤ 1000) (hps : ∀ sn ∈ l, sn.ps.length ≤ 8) (root : HT) (hT : Tab w)
    (hK : ∀ v S F x FR r, BothX v S F x FR r (buildX root l).D (buildX root l).P → Kept Nil w v → (∀ k, S k → w.heap.size ≤ k) → (∀ k, F k → w.heap.size ≤ k) → (∀ k, FR k → w.heap.size ≤ k) → w.heap.size ≤ r → K (.tuple #[.pointer (some ⟨x, 0, none⟩), .pointer (some ⟨r, 0, none⟩), .bool true]) v) :
    Ret Tryd.prog law12_begin.id #[.agg root.1, .slice A n c] w K := by
  have hlen := hl.len
  refine law12_begin.of ?_
  unfold law12_begin.W
  intro w3 w4
  have hb4 : w4.heap[w.heap.size]? = some (.cells root.1 T_api_Hash (0, 0)) := new_blk w _
  have k4 : Kept Nil w w4 := ((Kept.refl Nil w).alloc (.cells root.1 T_api_Hash)).drew
  clear_value w4
  have hs4 := k4.size
  refine ⟨root.1, ⟨root.2.1, Cells.blk hb4⟩, root.1, ⟨root.2.1, Cells.blk hb4⟩, ?_⟩
  refine reach_New_ok root fun w8 x hX8 k8 => ⟨_, rfl, ⟨root.1, rfl, root.2.1, Cells.blk (k8.heap hb4 (fun h => h))⟩, ?_⟩
  have s8 := k8.size
  refine ref12_New_ok root fun w11 r FR hR11 hFR hr11 k11 => ⟨_, rfl, ?_⟩
  have s11 := k11.size
  have k011 : Kept Nil w w11 := (k4.trans k8 (fun _ _ h => h)).trans k11 (fun _ _ h => h)
  obtain ⟨S0, hX0, hS0⟩ := hX8.low
  refine law12_begin.loop1 (I := BIX w root l x r) (μ := fun s _ => ((n : Int) - s.2.2.2).toNat) (s := (none, none, false, 0)) ⟨0, S0, fun _ => False, FR, rfl, Nat.zero_le _, ⟨hX0.keep k11 (fun _ _ h => h) (fun _ h => h.elim), hR11, fun e => by have := (hS0 _ e).2; omega, fun h => h, fun k e e' => by have := (hS0 _ e').2; have := (hFR k e).1; omega, fun k e => (hFR k e).2⟩, k011, fun k e => by have := (hS0 _ e).1.1; omega, fun k e => e.elim, fun k e => by have := (hFR k e).1; omega, by omega⟩ ?_
  rintro s v ⟨i, S, F, FR', rfl, hi, B, kv, nS, nF, nR, nr⟩
  unfold law12_begin.B1
  refine Split.dec (fun hil0 => ?_) (fun hge => ?_)
  · simp only at hil0
    have hil : i < n := by omega
    obtain ⟨sn, hsn⟩ : ∃ sn, l[i]? = some sn := ⟨_, List.getElem?_eq_getElem (by omega)⟩
    have hpl := hps sn (List.mem_of_getElem? hsn)
    intro w20
    have k20 : Kept Nil v w20 := (Kept.refl _ _).drew
    clear_value w20
    have kw20 := kv.trans k20 (fun _ _ h => h)
    have sw := kw20.size
    obtain ⟨a, pA, pn, pc, rfl, _, h3, h4, h5, hq, _⟩ := hl.at_ i sn hsn
    have hpn := hq.len
    have hb : 0 ≤ (i : Int) ∧ (i : Int) < (n : Int) := ⟨by omega, by omega⟩
    have c1 : ∀ {u : World}, Kept Nil w u → Cells u ((a.add ((i : Int).toNat * 65)).add 0) sn.id.1 := fun k => by
      rw [Int.toNat_natCast, add_zero]
      exact Cells.keep h3 k (fun h => h)
    have c2 : ∀ {u : World}, Kept Nil w u → Cells u ((a.add ((i : Int).toNat * 65)).add 32) sn.sel.1 := fun k => by
      rw [Int.toNat_natCast]
      exact Cells.keep h4 k (fun h => h)
    have c3 : ∀ {u : World}, Kept Nil w u → u.cell? ((a.add ((i : Int).toNat * 65)).add 64) = some (.slice pA pn pc) := fun k => by
      rw [Int.toNat_natCast]
      exact k.cell h5 (fun h => h)
    refine ⟨hb, Is.mk rfl ⟨sn.id.1, ⟨sn.id.2.1, c1 kw20⟩, hb, Is.mk rfl ⟨sn.sel.1, ⟨sn.sel.2.1, c2 kw20⟩, hb, Is.mk rfl ⟨pA, pn, pc, c3 kw20, hb, Is.mk rfl ⟨sn.id.1, ⟨sn.id.2.1, c1 kw20⟩, hb, Is.mk rfl ⟨sn.sel.1, ⟨sn.sel.2.1, c2 kw20⟩, hb, Is.mk rfl ⟨pA, pn, pc, c3 kw20, ?_⟩⟩⟩⟩⟩⟩⟩
    have hDl := buildX_len root (l.take i)
    rw [List.length_take] at hDl
    have hTlt := hT.lt
    refine both_add (B.same k20) (by omega) (hT.same kw20) (fun e => by have := nS _ e; omega) (hq.same kw20) (by omega) (fun h0 b hb e => by have := nS _ e; have := hs_lt hq h0 b hb; omega) sn.id sn.sel fun u ku h2 => ?_
    have kwu : Kept Nil w u := kw20.trans ku (fun k hk e => by have := nS k e; omega)
    refine ⟨_, rfl, c3 kwu, ⟨sn.sel.1, rfl, sn.sel.2.1, c2 kwu⟩, ⟨sn.id.1, rfl, sn.id.2.1, c1 kwu⟩, h2 _ _ fun t S' F' FR2 B' kt hS' hF' hR' => ⟨_, rfl, Split.no (by simp) ?_⟩⟩
    simp only
    rw [wrapP (n := (i : Int)) (by omega) (by omega)]
    have s20 := k20.size
    refine ⟨(none, none, false, (i : Int) + 1), rfl, ⟨i + 1, S', F', FR2, rfl, by omega, ?_, kw20.trans kt (fun k hk e => e.elim (fun e => by have := nS k e; omega) (fun e => by omega)), fun k hk => (hS' k hk).elim (nS k) (fun h => by omega), fun k hk => (hF' k hk).elim (nF k) (fun h => by omega), fun k hk => (hR' k hk).elim (nR k) (fun h => by omega), nr⟩, by simp only; omega⟩
    have e : buildX root (l.take (i + 1)) = stepX (buildX root (l.take i)) sn := stepX_snoc hsn
    rw [e]
    exact B'
  · simp only at hge
    have : i = l.length := by omega
    subst this
    rw [roundQ_exit, law12_begin.x1_0]
    rw [List.take_of_length_le (Nat.le_refl _)] at B
    exact hK v S F x FR' r B kv nS nF nR nr
end
end Go.Proofs.YtgfkpemnkmebkaaDoor
/-
  The document's index: Cover.
-/
namespace Go.Proofs.YtgfkpemnkmebkaaDoor
open Go Go.Lite Go.RowKit

section
variable {w w' : World} {F S : Nat → Prop} {r : Nat} {D : DG} {P : List Int} {K : Value → World → Prop}
theorem root_noCov (W : WfD D) {nd : DN} (h0 : D[0]? = some nd) {h : HT} : ¬ Cov D P h nd.id := fun hc => by
  obtain ⟨i, j, mi, mj, hij, _, hj, _, e⟩ := hc.1.at_ W
  have := W.inj hj h0 e
  omega
theorem ref12_Cover_ok (H : IsR2 w F r D P) (hD : D.length ≤ 5000) (h : HT) (hK : ∀ A c w', HRow w' w.heap.size A (coverL D P h).length c (coverL D P h) → Kept Nil w w' → K (.slice A (coverL D P h).length c) w') :
    Ret Tryd.prog ref12_Index_Cover.id #[.pointer (some ⟨r, 0, none⟩), .agg h.1] w K := by
  have W := H.W
  have hsel := H.sel
  refine ref12_Index_Cover.of ?_
  unfold ref12_Index_Cover.W
  intro w3
  have k3 : Kept Nil w w3 := (Kept.refl _ _).alloc _
  have hb3 : w3.heap[w.heap.size]? = some (.cells h.1 T_api_Hash (0, 0)) := new_blk w _
  clear_value w3
  have H3 := H.same k3
  obtain ⟨nd0, hnd0⟩ : ∃ nd, D[0]? = some nd := ⟨_, List.getElem?_eq_getElem W.pos⟩
  refine ref12_Index_Cover.loop1 (I := fun s w' => ∃ (i : Nat) (out : List HT) (A : Option Addr) (c : Nat), s = (A, out.length, c, (i : Int)) ∧ 0 < i ∧ i ≤ D.length ∧ GB w3 w' D (fun c => Cov D P h c) i out A c) (μ := fun s _ => ((D.length : Int) - s.2.2.2).toNat) (s := (none, 0, 0, 1))
    ⟨1, [], none, 0, rfl, by omega, W.pos, (GB.nil (Kept.refl _ _)).skip hnd0 (root_noCov W hnd0)⟩ ?_
  rintro s w' ⟨i, out, A, c, rfl, hi0, hi, hg⟩
  obtain ⟨A0, n0, c0, hc0, rfl, hns⟩ := (H3.same hg.kp).go (k := fun A c => NS w' F A D.length D) (fun _ _ h => h)
  refine Is.mk rfl ⟨A0, D.length, c0, hc0, Split.dec (fun hil0 => ?_) (fun hge => ?_)⟩
  · simp only at hil0
    have hil : i < D.length := by omega
    obtain ⟨nd, hnd⟩ : ∃ nd, D[i]? = some nd := ⟨_, List.getElem?_eq_getElem hil⟩
    obtain ⟨j, mj, hj, hPj, hmj, hso⟩ := SelOf.ex hsel hi0 hnd
    intro w11
    have k11 : Kept Nil w' w11 := (Kept.refl _ _).drew
    clear_value w11
    have hg11 := hg.same k11
    obtain ⟨A1, c1, B1, e1, sl, h1, h2, h3, h4, h5⟩ := (H3.same hg11.kp).ex
    obtain ⟨a, pA, pn, pc, rfl, _, _, hca, _, _⟩ := h2.at_ i nd hnd
    have hsli : sl[i]? = some mj.id := h5.2 i j mj hPj hmj
    obtain ⟨b, rfl, _, hcb⟩ := h3.at_ i mj.id hsli
    have f1 : ∀ {u : World}, Kept Nil w11 u → Cells u ((a.add ((i : Int).toNat * 33)).add 0) nd.id.1 := fun k => by
      rw [Int.toNat_natCast, add_zero]
      exact Cells.keep (fun j v hj => hca j v (push_get hj)) k (fun h => h)
    have f2 : ∀ {u : World}, Kept Nil w11 u → Cells u (b.add ((i : Int).toNat * 32)) mj.id.1 := fun k => by
      rw [Int.toNat_natCast]
      exact Cells.keep hcb k (fun h => h)
    have f3 : ∀ {u : World}, Kept Nil w11 u → u.cell? (((⟨r, 0, none⟩ : Addr).add 0).add 0) = some (.slice (some a) D.length c1) := fun k => by
      rw [add_zero, add_zero, cell_blk (k.heap h1 (fun h => h))]
      rfl
    have f4 : ∀ {u : World}, Kept Nil w11 u → u.cell? ((⟨r, 0, none⟩ : Addr).add 1) = some (.slice (some b) D.length e1) := fun k => by
      rw [add_at, cell_blk (k.heap h1 (fun h => h))]
      rfl
    have g1 : ∀ {u : World}, Kept Nil w11 u → ∃ cs : Array Value, (.agg nd.id.1 : Value) = .agg cs ∧ cs.size = 32 ∧ Cells u ((a.add ((i : Int).toNat * 33)).add 0) cs := fun k => ⟨_, rfl, nd.id.2.1, f1 k⟩
    have g2 : ∀ {u : World}, Kept Nil w11 u → ∃ cs : Array Value, (.agg mj.id.1 : Value) = .agg cs ∧ cs.size = 32 ∧ Cells u (b.add ((i : Int).toNat * 32)) cs := fun k => ⟨_, rfl, mj.id.2.1, f2 k⟩
    have kz := Kept.refl Nil w11
    have hbd : 0 ≤ (i : Int) ∧ (i : Int) < (D.length : Int) := ⟨by omega, by omega⟩
    -- what both orders come to
    have fin : ∀ {u : World} {hb sb : Nat}, Kept Nil w11 u → u.heap[hb]? = some (.cells nd.id.1 T_api_Hash (0, 0)) → u.heap[sb]? = some (.cells mj.id.1 T_api_Hash (0, 0)) →
        ref12_Index_Cover.J1 (some ⟨r, 0, none⟩) ⟨w.heap.size, 0, none⟩ none 0 0 A out.length c (i : Int) ⟨hb, 0, none⟩ ⟨sb, 0, none⟩ (roundQ (ref12_Index_Cover.e1 (some ⟨r, 0, none⟩) ⟨w.heap.size, 0, none⟩ none 0 0) (fun s w' => ∃ (i : Nat) (out : List HT) (A : Option Addr) (c : Nat), s = (A, out.length, c, (i : Int)) ∧ 0 < i ∧ i ≤ D.length ∧ GB w3 w' D (fun c => Cov D P h c) i out A c) (fun s _ => ((D.length : Int) - s.2.2.2).toNat) (A, out.length, c, (i : Int)) w' (ref12_Index_Cover.q1 K)) u := by
      intro u hb sb ku hhb hsb
      have hgu := hg11.same ku
      unfold ref12_Index_Cover.J1
      intro w51
      have k51 : Kept Nil u w51 := (Kept.refl _ _).drew
      clear_value w51
      have hg51 := hgu.same k51
      have no : ∀ {v : World}, GB w3 v D (fun c => Cov D P h c) i out A c → ¬ Cov D P h nd.id → ∃ s' : Option Addr × Nat × Nat × Int, [(0, Value.pointer (some ⟨r, 0, none⟩)), (3, .pointer (some (⟨w.heap.size, 0, none⟩ : Addr))), (4, .slice none 0 0), (5, .slice A out.length c), (6, .int .i64 (IntKind.i64.wrap ((i : Int) + (1 : Int))))] = ref12_Index_Cover.e1 (some ⟨r, 0, none⟩) ⟨w.heap.size, 0, none⟩ none 0 0 s' ∧ (∃ (i : Nat) (out : List HT) (A : Option Addr) (c : Nat), s' = (A, out.length, c, (i : Int)) ∧ 0 < i ∧ i ≤ D.length ∧ GB w3 v D (fun c => Cov D P h c) i out A c) ∧ ((D.length : Int) - s'.2.2.2).toNat < ((D.length : Int) - (i : Int)).toNat := fun hgv hn => by
        rw [wrapP (n := (i : Int)) (by omega) (by omega)]
        exact ⟨(A, out.length, c, (i : Int) + 1), rfl, ⟨i + 1, out, A, c, rfl, by omega, hil, hgv.skip hnd hn⟩, by simp only; omega⟩
      have bx : ∀ {v : World}, Kept Nil u v → Cells v (⟨w.heap.size, 0, none⟩ : Addr) h.1 ∧ Cells v (⟨hb, 0, none⟩ : Addr) nd.id.1 ∧ Cells v (⟨sb, 0, none⟩ : Addr) mj.id.1 := fun k => ⟨Cells.blk (((hg11.kp.trans ku (fun _ _ h => h)).trans k (fun _ _ h => h)).heap hb3 (fun h => h)), Cells.blk (k.heap hhb (fun h => h)), Cells.blk (k.heap hsb (fun h => h))⟩
      have hcd := cov_doc W hsel hso (h := h)
      refine Is.mk rfl ⟨h.1, ⟨h.2.1, (bx k51).1⟩, nd.id.1, ⟨nd.id.2.1, (bx k51).2.1⟩, ?_⟩
      rw [add_zero]
      refine ref_Before (H3.same hg51.kp).gr W (by omega) h nd.id fun w56 x1 hx1 k56 => ⟨x1, rfl, ?_⟩
      have ku56 := k51.trans k56 (fun _ _ h => h)
      have hg56 := hg51.same k56
      cases x1 with
      | false => exact Split.no rfl (no hg56 fun hc => by have := hx1.2 (hcd.1 hc).1; cases this)
      | true =>
        refine Split.yes rfl ⟨h.1, ⟨h.2.1, (bx ku56).1⟩, nd.id.1, ⟨nd.id.2.1, (bx ku56).2.1⟩, ?_⟩
        refine ref12_Chain (H3.same hg56.kp) (by omega) h nd.id fun w61 x2 hx2 k61 => ⟨x2, rfl, ?_⟩
        have ku61 := ku56.trans k61 (fun _ _ h => h)
        have hg61 := hg56.same k61
        cases x2 with
        | true => exact Split.no rfl (no hg61 fun hc => (hcd.1 hc).2.1 (hx2.1 rfl))
        | false =>
          refine Split.yes rfl ⟨h.1, ⟨h.2.1, (bx ku61).1⟩, mj.id.1, ⟨mj.id.2.1, (bx ku61).2.2⟩, ?_⟩
          refine ref12_Chain (H3.same hg61.kp) (by omega) h mj.id fun w66 x3 hx3 k66 => ⟨x3, rfl, ?_⟩
          have ku66 := ku61.trans k66 (fun _ _ h => h)
          have hg66 := hg61.same k66
          cases x3 with
          | true => exact Split.no rfl (no hg66 fun hc => (hcd.1 hc).2.2.1 (hx3.1 rfl))
          | false =>
            refine Split.yes rfl (Is.mk rfl ⟨h.1, ⟨h.2.1, (bx ku66).1⟩, mj.id.1, ⟨mj.id.2.1, (bx ku66).2.2⟩, ?_⟩)
            refine ref_Before (H3.same hg66.kp).gr W (by omega) h mj.id fun w72 x4 hx4 k72 => ⟨x4, rfl, ?_⟩
            have ku72 := ku66.trans k72 (fun _ _ h => h)
            have hg72 := hg66.same k72
            cases x4 with
            | true => exact Split.no rfl (no hg72 fun hc => (hcd.1 hc).2.2.2 (hx4.1 rfl))
            | false =>
              refine Split.yes rfl ⟨nd.id.1, ⟨nd.id.2.1, (bx ku72).2.1⟩, nd.id.2.1, ?_⟩
              obtain ⟨A', c', v, hr, hgv⟩ := hg72.add hnd (by omega) (hcd.2 ⟨hx1.1 rfl, fun e => (by have := hx2.2 e; cases this), fun e => (by have := hx3.2 e; cases this), fun e => (by have := hx4.2 e; cases this)⟩)
              refine ⟨A', _, c', v, hr, ?_⟩
              rw [wrapP (n := (i : Int)) (by omega) (by omega)]
              exact ⟨(A', out.length + 1, c', (i : Int) + 1), rfl, ⟨i + 1, out ++ [nd.id], A', c', by simp, by omega, hil, hgv⟩, by simp only; omega⟩
    refine Is.mk rfl ⟨some a, D.length, c1, f3 kz, hbd, Is.mk rfl ⟨nd.id.1, ⟨nd.id.2.1, f1 kz⟩, Is.mk rfl ⟨some b, D.length, e1, f4 kz, hbd, Is.mk rfl ⟨mj.id.1, ⟨mj.id.2.1, f2 kz⟩, ?_, ?_⟩⟩⟩⟩
    · intro w20
      have k20 : Kept Nil w11 w20 := (Kept.refl _ _).alloc _
      have q20 : w20.heap[w11.heap.size]? = some (.cells hnull.1 T_api_Hash (0, 0)) := new_blk w11 _
      clear_value w20
      refine ⟨g2 k20, f4 k20, g1 k20, f3 k20, ?_⟩
      intro w21
      have k21' : Kept Nil w20 w21 := (Kept.refl _ _).alloc _
      have q21 : w21.heap[w20.heap.size]? = some (.cells hnull.1 T_api_Hash (0, 0)) := new_blk w20 _
      clear_value w21
      have q20' := k21'.heap q20 (fun h => h)
      have k21 := k20.trans k21' (fun _ _ h => h)
      have l20 := lt_blk q20
      obtain ⟨t1, t2, t3⟩ := hash_set nd.id q20' rfl
      refine ⟨g2 k21, f4 k21, g1 k21, f3 k21, t1, ?_⟩
      intro w24
      replace t2 : w24.heap[w11.heap.size]? = some (.cells nd.id.1 T_api_Hash (0, 0)) := t2
      replace t3 : Kept (· = w11.heap.size) w21 w24 := t3
      clear_value w24
      have k24 : Kept Nil w11 w24 := k21.trans t3 (fun k hk e => by omega)
      obtain ⟨u1, u2, u3⟩ := hash_set mj.id (t3.heap q21 (by omega)) rfl
      refine ⟨g2 k24, f4 k24, u1, ?_⟩
      intro w27
      replace u2 : w27.heap[w20.heap.size]? = some (.cells mj.id.1 T_api_Hash (0, 0)) := u2
      replace u3 : Kept (· = w20.heap.size) w24 w27 := u3
      clear_value w27
      exact ref12_Index_Cover.join1 (fin (k24.trans u3 (fun k hk e => by omega)) (u3.heap t2 (by omega)) u2)
    · intro w28
      have k20 : Kept Nil w11 w28 := (Kept.refl _ _).alloc _
      have q20 : w28.heap[w11.heap.size]? = some (.cells hnull.1 T_api_Hash (0, 0)) := new_blk w11 _
      clear_value w28
      refine ⟨g2 k20, f4 k20, g1 k20, f3 k20, ?_⟩
      intro w29
      have k21' : Kept Nil w28 w29 := (Kept.refl _ _).alloc _
      have q21 : w29.heap[w28.heap.size]? = some (.cells hnull.1 T_api_Hash (0, 0)) := new_blk w28 _
      clear_value w29
      have q20' := k21'.heap q20 (fun h => h)
      have k21 := k20.trans k21' (fun _ _ h => h)
      have l20 := lt_blk q20
      obtain ⟨t1, t2, t3⟩ := hash_set nd.id q21 rfl
      refine ⟨g2 k21, f4 k21, g1 k21, f3 k21, t1, ?_⟩
      intro w32
      replace t2 : w32.heap[w28.heap.size]? = some (.cells nd.id.1 T_api_Hash (0, 0)) := t2
      replace t3 : Kept (· = w28.heap.size) w29 w32 := t3
      clear_value w32
      have k24 : Kept Nil w11 w32 := k21.trans t3 (fun k hk e => by omega)
      obtain ⟨u1, u2, u3⟩ := hash_set mj.id (t3.heap q20' (by omega)) rfl
      refine ⟨g2 k24, f4 k24, u1, ?_⟩
      intro w35
      replace u2 : w35.heap[w11.heap.size]? = some (.cells mj.id.1 T_api_Hash (0, 0)) := u2
      replace u3 : Kept (· = w11.heap.size) w32 w35 := u3
      clear_value w35
      exact ref12_Index_Cover.join1 (fin (k24.trans u3 (fun k hk e => by omega)) (u3.heap t2 (by omega)) u2)
  · simp only at hge
    have : i = D.length := by omega
    subst this
    rw [roundQ_exit, ref12_Index_Cover.x1_0]
    exact hg.sorted (by omega) fun A' c' w2 row k2 => ⟨A', _, c', rfl, hK A' c' w2 (Row.base row fun b hb => Nat.le_trans k3.size (Row.blk row hb).1) (k3.trans k2 (fun _ _ h => h))⟩
end
end Go.Proofs.YtgfkpemnkmebkaaDoor
/-
  known: the chapter's rows.
-/
namespace Go.Proofs.YtgfkpemnkmebkaaDoor
open Go Go.Lite Go.RowKit
open Tr (Und)

/-- four boxes of hashes, written one behind the other -/
theorem four (w : World) (r a b c : HT) :
    let w1 := w.alloc (.cells hnull.1 T_api_Hash); let w2 := w1.alloc (.cells hnull.1 T_api_Hash); let w3 := w2.alloc (.cells hnull.1 T_api_Hash); let w4 := w3.alloc (.cells hnull.1 T_api_Hash)
    let w7 := setCells w4 (⟨w.heap.size, 0, none⟩ : Addr) r.1.toList 0; let w10 := setCells w7 (⟨w1.heap.size, 0, none⟩ : Addr) a.1.toList 0; let w13 := setCells w10 (⟨w2.heap.size, 0, none⟩ : Addr) b.1.toList 0; let w16 := setCells w13 (⟨w3.heap.size, 0, none⟩ : Addr) c.1.toList 0
    ((∀ j, j < 32 → Wr w4 ((⟨w.heap.size, 0, none⟩ : Addr).add j)) ∧ (∀ j, j < 32 → Wr w7 ((⟨w1.heap.size, 0, none⟩ : Addr).add j)) ∧ (∀ j, j < 32 → Wr w10 ((⟨w2.heap.size, 0, none⟩ : Addr).add j)) ∧ (∀ j, j < 32 → Wr w13 ((⟨w3.heap.size, 0, none⟩ : Addr).add j))) ∧
    w16.heap[w.heap.size]? = some (.cells r.1 T_api_Hash (0, 0)) ∧ w16.heap[w1.heap.size]? = some (.cells a.1 T_api_Hash (0, 0)) ∧ w16.heap[w2.heap.size]? = some (.cells b.1 T_api_Hash (0, 0)) ∧ w16.heap[w3.heap.size]? = some (.cells c.1 T_api_Hash (0, 0)) ∧
    w.heap.size < w1.heap.size ∧ w1.heap.size < w2.heap.size ∧ w2.heap.size < w3.heap.size ∧ w3.heap.size < w16.heap.size ∧ Kept Nil w w16 := by
  intro w1 w2 w3 w4
  have k1' : Kept Nil w w1 := (Kept.refl _ _).alloc _
  have k2' : Kept Nil w1 w2 := (Kept.refl _ _).alloc _
  have k3' : Kept Nil w2 w3 := (Kept.refl _ _).alloc _
  have k4' : Kept Nil w3 w4 := (Kept.refl _ _).alloc _
  have hr1 : w1.heap[w.heap.size]? = some (.cells hnull.1 T_api_Hash (0, 0)) := new_blk w _
  have ha2 : w2.heap[w1.heap.size]? = some (.cells hnull.1 T_api_Hash (0, 0)) := new_blk w1 _
  have hb3 : w3.heap[w2.heap.size]? = some (.cells hnull.1 T_api_Hash (0, 0)) := new_blk w2 _
  have hc4 : w4.heap[w3.heap.size]? = some (.cells hnull.1 T_api_Hash (0, 0)) := new_blk w3 _
  clear_value w4
  have hb4 := k4'.heap hb3 (fun h => h)
  have ha4 := k4'.heap (k3'.heap ha2 (fun h => h)) (fun h => h)
  have hr4 := k4'.heap (k3'.heap (k2'.heap hr1 (fun h => h)) (fun h => h)) (fun h => h)
  have l1 := lt_blk hr1
  have l2 := lt_blk ha2
  have l3 := lt_blk hb3
  have l4 := lt_blk hc4
  clear_value w3 w2 w1
  have kw4 : Kept Nil w w4 := ((k1'.trans k2' (fun _ _ h => h)).trans k3' (fun _ _ h => h)).trans k4' (fun _ _ h => h)
  have sz : ∀ h : HT, hnull.1.size = h.1.size := fun h => by rw [h.2.1]; rfl
  obtain ⟨wr7, hr7, k7⟩ := set_box hr4 (cs := r.1) (sz r)
  rw [r.2.1] at wr7
  intro w7
  replace hr7 : w7.heap[w.heap.size]? = some (.cells r.1 T_api_Hash (0, 0)) := hr7
  replace k7 : Kept (· = w.heap.size) w4 w7 := k7
  clear_value w7
  obtain ⟨wr10, ha10, k10⟩ := set_box (k7.heap ha4 (by omega)) (cs := a.1) (sz a)
  rw [a.2.1] at wr10
  intro w10
  replace ha10 : w10.heap[w1.heap.size]? = some (.cells a.1 T_api_Hash (0, 0)) := ha10
  replace k10 : Kept (· = w1.heap.size) w7 w10 := k10
  clear_value w10
  obtain ⟨wr13, hb13, k13⟩ := set_box (k10.heap (k7.heap hb4 (by omega)) (by omega)) (cs := b.1) (sz b)
  rw [b.2.1] at wr13
  intro w13
  replace hb13 : w13.heap[w2.heap.size]? = some (.cells b.1 T_api_Hash (0, 0)) := hb13
  replace k13 : Kept (· = w2.heap.size) w10 w13 := k13
  clear_value w13
  obtain ⟨wr16, hc16, k16⟩ := set_box (k13.heap (k10.heap (k7.heap hc4 (by omega)) (by omega)) (by omega)) (cs := c.1) (sz c)
  rw [c.2.1] at wr16
  intro w16
  replace hc16 : w16.heap[w3.heap.size]? = some (.cells c.1 T_api_Hash (0, 0)) := hc16
  replace k16 : Kept (· = w3.heap.size) w13 w16 := k16
  clear_value w16
  have s16 := lt_blk hc16
  exact ⟨⟨wr7, wr10, wr13, wr16⟩, k16.heap (k13.heap (k10.heap hr7 (by omega)) (by omega)) (by omega), k16.heap (k13.heap ha10 (by omega)) (by omega), k16.heap hb13 (by omega), hc16, by omega, by omega, by omega, s16,
    (((kw4.trans k7 (fun k hk e => by omega)).trans k10 (fun k hk e => by omega)).trans k13 (fun k hk e => by omega)).trans k16 (fun k hk e => by omega)⟩

section
variable {r a b c : HT} (hra : r ≠ a) (hrb : r ≠ b) (hrc : r ≠ c) (hab : a ≠ b) (hac : a ≠ c) (hbc : b ≠ c)
theorem addX_yes {D : DG} {P : List Int} {h s : HT} {l : List HT} (hc : addC D h l = 0) (hs : s ∈ l) {j : Nat} (hj : pos s (ids D) 0 = some j) : addXC D h s l = 0 ∧ addXD D h s l = addD D h l ∧ addXP D P h s l = P ++ [(j : Int)] := by
  have e : addXC D h s l = 0 := by unfold addXC; rw [if_pos hc, if_pos hs]
  refine ⟨e, ?_, ?_⟩
  · unfold addXD addD
    rw [if_pos e, if_pos hc]
  · unfold addXP
    rw [if_pos e, hj]
    rfl
abbrev kP : List Int := [-1, 0, 0, 1]
theorem kSel : Sel (kD r a b c) kP where
  len := rfl
  root := rfl
  up := fun i p nd hi hp hnd => by
    match i, hi with
    | 1, _ => simp at hp hnd; subst hp hnd; exact ⟨0, _, rfl, by omega, rfl, by simp⟩
    | 2, _ => simp at hp hnd; subst hp hnd; exact ⟨0, _, rfl, by omega, rfl, by simp⟩
    | 3, _ => simp at hp hnd; subst hp hnd; exact ⟨1, _, rfl, by omega, rfl, mem_srt.2 (by simp)⟩
    | n + 4, _ => simp at hp
include hra hrb hrc hab hac hbc in
theorem kCh : Ch (kD r a b c) kP a c ∧ ¬ Ch (kD r a b c) kP b c ∧ coverL (kD r a b c) kP b = [c] := by
  have W := kW hra hrb hrc hab hac hbc
  have H := kSel (r := r) (a := a) (b := b) (c := c)
  obtain ⟨h1, h2, h3, h4⟩ := kAnc hra hrb hrc hab hac hbc
  have sc : SelOf (kD r a b c) kP a c := ⟨3, 1, _, _, rfl, rfl, rfl, rfl, rfl⟩
  have sa : SelOf (kD r a b c) kP r a := ⟨1, 0, _, _, rfl, rfl, rfl, rfl, rfl⟩
  refine ⟨⟨3, 1, _, _, rfl, rfl, rfl, rfl, .step rfl (.refl (by decide))⟩, fun h => ?_, ?_⟩
  · rcases h.inv W H with e | ⟨s, g1, g2⟩
    · exact hbc e
    · rw [SelOf.one W g1 sc] at g2
      rcases g2.inv W H with e | ⟨s, g3, g4⟩
      · exact hab e.symm
      · rw [SelOf.one W g3 sa] at g4
        rcases g4.inv W H with e | ⟨s, g5, _⟩
        · exact hrb e.symm
        · exact h1 s (.one (g5.par H))
  · refine SS_ext (SS_srt _) (by simp [SS]) fun x => ?_
    show x ∈ coverL _ _ b ↔ _
    unfold coverL
    rw [mem_pick, List.mem_singleton]
    constructor
    · rintro ⟨hx, hA, _⟩
      simp [ids] at hx
      rcases hx with rfl | rfl | rfl | rfl
      · exact absurd hA (h1 _)
      · exact absurd ((h2 b).1 hA).symm hrb
      · exact absurd hA (Anc.irrefl W _)
      · rfl
    · rintro rfl
      exact ⟨by simp [ids], (h4 b).2 (.inr (.inl rfl)), a, sc, fun e => hab e.symm, fun e => hrb ((h2 b).1 e).symm⟩
end

section
variable {w w' : World} {K : Value → World → Prop}
theorem knownX_ok (hT : Tab w) (hK : ∀ w', Kept Nil w w' → K (.bool true) w') : Ret Tryd.prog law12_known.id #[] w K := by
  let r := hx 1 (by omega)
  let a := hx 2 (by omega)
  let b := hx 3 (by omega)
  let c := hx 4 (by omega)
  have hra : r ≠ a := hx_inj (by omega)
  have hrb : r ≠ b := hx_inj (by omega)
  have hrc : r ≠ c := hx_inj (by omega)
  have hab : a ≠ b := hx_inj (by omega)
  have hac : a ≠ c := hx_inj (by omega)
  have hbc : b ≠ c := hx_inj (by omega)
  refine law12_known.of ?_
  unfold law12_known.W
  intro w1 w2 w3 w4
  obtain ⟨⟨f1, f2, f3, f4⟩, hr, ha, hb, hc, l1, l2, l3, l4, k⟩ := four w r a b c
  refine ⟨⟨r.2.1, r.2.one, f1⟩, ?_⟩
  intro w7
  refine ⟨⟨a.2.1, a.2.one, f2⟩, ?_⟩
  intro w10
  refine ⟨⟨b.2.1, b.2.one, f3⟩, ?_⟩
  intro w13
  refine ⟨⟨c.2.1, c.2.one, f4⟩, ?_⟩
  intro w16
  replace hr : w16.heap[w.heap.size]? = some (.cells r.1 T_api_Hash (0, 0)) := hr
  replace ha : w16.heap[w1.heap.size]? = some (.cells a.1 T_api_Hash (0, 0)) := ha
  replace hb : w16.heap[w2.heap.size]? = some (.cells b.1 T_api_Hash (0, 0)) := hb
  replace hc : w16.heap[w3.heap.size]? = some (.cells c.1 T_api_Hash (0, 0)) := hc
  replace k : Kept Nil w w16 := k
  replace l1 : w.heap.size < w1.heap.size := l1
  replace l2 : w1.heap.size < w2.heap.size := l2
  replace l3 : w2.heap.size < w3.heap.size := l3
  replace l4 : w3.heap.size < w16.heap.size := l4
  clear f1 f2 f3 f4
  clear_value w16
  clear w13 w10 w7
  clear_value w3
  clear w4
  clear_value w2
  clear_value w1
  have hTl := hT.lt
  have s16 := k.size
  -- what stands when only blocks behind w16 are written
  have box : ∀ {u : World} {S : Nat → Prop}, Kept S w16 u → (∀ k, S k → w16.heap.size ≤ k) → Cells u (⟨w.heap.size, 0, none⟩ : Addr) r.1 ∧ Cells u (⟨w1.heap.size, 0, none⟩ : Addr) a.1 ∧ Cells u (⟨w2.heap.size, 0, none⟩ : Addr) b.1 ∧ Cells u (⟨w3.heap.size, 0, none⟩ : Addr) c.1 := fun ku hS =>
    ⟨Cells.blk (ku.heap hr (fun e => by have := hS _ e; omega)), Cells.blk (ku.heap ha (fun e => by have := hS _ e; omega)), Cells.blk (ku.heap hb (fun e => by have := hS _ e; omega)), Cells.blk (ku.heap hc (fun e => by have := hS _ e; omega))⟩
  refine ⟨r.1, ⟨r.2.1, Cells.blk hr⟩, reach_New_ok r fun w19 x hX19 k19 => ⟨_, rfl, ?_⟩⟩
  obtain ⟨c1, c2, c3, c4⟩ := box k19 (fun _ h => h.elim)
  refine ⟨a.1, ⟨a.2.1, c2⟩, r.1, ⟨r.2.1, c1⟩, r.1, ⟨r.2.1, c1⟩, r.2.1, ?_⟩
  intro w24
  have k24 : Kept Nil w19 w24 := (Kept.refl _ _).alloc _
  have hb24 : HS w24 (some ⟨w19.heap.size, 0, none⟩) 1 [r] := hbox w19 r
  clear_value w24
  have k024 := k19.trans k24 (fun _ _ h => h)
  obtain ⟨e1, e2, e3⟩ := addX_yes (D := [⟨r, []⟩]) (P := [-1]) (h := a) (s := r) (l := [r]) (k1 hra).1 (by simp) (j := 0) (by simp [ids, pos])
  rw [(k1 hra).2] at e2
  refine reach_AddI (hX19.same k24) (by simp) (hT.same (k.trans k024 (fun _ _ h => h))) (fun e => by have := e.1; omega) hb24 (by omega) a r fun w26 S2 F2 hX26 k26 hS2 hF2 => ⟨_, rfl, ?_⟩
  rw [e1]
  rw [e2, e3] at hX26
  replace hX26 : IsX w26 S2 F2 x [⟨r, []⟩, ⟨a, [r]⟩] [-1, 0] := hX26
  refine Split.no rfl ?_
  have s24 := k024.size
  have m2 : ∀ q, S2 q → w16.heap.size ≤ q := fun q h => (hS2 q h).elim (fun h => h.1) (fun h => by omega)
  have k1626 : Kept (fun q => w16.heap.size ≤ q) w16 w26 := (k024.mono (S' := fun q => w16.heap.size ≤ q) (fun _ _ h => h.elim)).trans k26 (fun q _ h => h.1)
  obtain ⟨c1, c2, c3, c4⟩ := box k1626 (fun _ h => h)
  refine ⟨b.1, ⟨b.2.1, c3⟩, r.1, ⟨r.2.1, c1⟩, r.1, ⟨r.2.1, c1⟩, r.2.1, ?_⟩
  intro w31
  have k31 : Kept Nil w26 w31 := (Kept.refl _ _).alloc _
  have hb31 : HS w31 (some ⟨w26.heap.size, 0, none⟩) 1 [r] := hbox w26 r
  clear_value w31
  have k1631 := k1626.trans k31 (fun _ _ h => h.elim)
  obtain ⟨e1, e2, e3⟩ := addX_yes (D := [⟨r, []⟩, ⟨a, [r]⟩]) (P := [-1, 0]) (h := b) (s := r) (l := [r]) (k2 hrb hab).1 (by simp) (j := 0) (by simp [ids, pos])
  rw [(k2 hrb hab).2] at e2
  refine reach_AddI (hX26.same k31) (by simp) ((hT.same k).keep k1631 (fun e => by omega)) (fun e => by have := m2 _ e; omega) hb31 (by omega) b r fun w33 S3 F3 hX33 k33 hS3 hF3 => ⟨_, rfl, ?_⟩
  rw [e1]
  rw [e2, e3] at hX33
  replace hX33 : IsX w33 S3 F3 x [⟨r, []⟩, ⟨a, [r]⟩, ⟨b, [r]⟩] [-1, 0, 0] := hX33
  refine Split.no rfl ?_
  have s31 := k1631.size
  have m3 : ∀ q, S3 q → w16.heap.size ≤ q := fun q h => (hS3 q h).elim (m2 q) (fun h => by omega)
  have k1633 : Kept (fun q => w16.heap.size ≤ q) w16 w33 := k1631.trans k33 (fun q _ h => m2 q h)
  obtain ⟨c1, c2, c3, c4⟩ := box k1633 (fun _ h => h)
  refine ⟨c.1, ⟨c.2.1, c4⟩, a.1, ⟨a.2.1, c2⟩, a.1, ⟨a.2.1, c2⟩, b.1, ⟨b.2.1, c3⟩, a.2.1, b.2.1, ?_⟩
  intro w39
  have k39 : Kept Nil w33 w39 := (Kept.refl _ _).alloc _
  have hb39 : HS w39 (some ⟨w33.heap.size, 0, none⟩) 2 [a, b] := HS.lay (l := [a, b]) (t := T_api_Hash) (new_blk w33 (.cells (hcells [a, b]).toArray T_api_Hash))
  clear_value w39
  have k1639 := k1633.trans k39 (fun _ _ h => h.elim)
  obtain ⟨e1, e2, e3⟩ := addX_yes (D := [⟨r, []⟩, ⟨a, [r]⟩, ⟨b, [r]⟩]) (P := [-1, 0, 0]) (h := c) (s := a) (l := [a, b]) (k3 hrc hab hac hbc).1 (by simp) (j := 1) (by simp [ids, pos]; exact fun e => absurd e.symm hra)
  rw [(k3 hrc hab hac hbc).2] at e2
  refine reach_AddI (hX33.same k39) (by simp) ((hT.same k).keep k1639 (fun e => by omega)) (fun e => by have := m3 _ e; omega) hb39 (by omega) c a fun w41 S4 F4 hX41 k41 hS4 hF4 => ⟨_, rfl, ?_⟩
  rw [e1]
  rw [e2, e3] at hX41
  replace hX41 : IsX w41 S4 F4 x (kD r a b c) kP := hX41
  refine Split.no rfl ?_
  have k1641 : Kept (fun q => w16.heap.size ≤ q) w16 w41 := k1639.trans k41 (fun q _ h => m3 q h)
  obtain ⟨q1, q2, q3⟩ := kCh hra hrb hrc hab hac hbc
  obtain ⟨_, _, _, hA4⟩ := kAnc hra hrb hrc hab hac hbc
  have kw41 : Kept Nil w w41 := k.trans k1641 (fun q hq e => by omega)
  have hX : ∀ {v : World}, Kept Nil w41 v → IsX v S4 F4 x (kD r a b c) kP := fun k => hX41.same k
  obtain ⟨c1, c2, c3, c4⟩ := box k1641 (fun _ h => h)
  obtain ⟨m, hV, _⟩ := hX (Kept.refl _ _)
  refine ⟨b.1, ⟨b.2.1, c3⟩, reach_Cover hV (by simp) b (fun w' hn _ => absurd (by simp [ids]) hn) fun A45 c45 w45 _ row45 k45 => ⟨A45, _, c45, 0, rfl, ?_⟩⟩
  rw [q3] at row45 ⊢
  intro w48
  have k48 : Kept Nil w45 w48 := (Kept.refl _ _).drew
  have row48 : HRow w48 w41.heap.size A45 1 c45 [c] := Row.keep row45 k48 (fun _ _ h => h)
  clear_value w48
  have k4148 := k45.trans k48 (fun _ _ h => h)
  have bx : ∀ {u : World}, Kept Nil w41 u → Cells u (⟨w1.heap.size, 0, none⟩ : Addr) a.1 ∧ Cells u (⟨w2.heap.size, 0, none⟩ : Addr) b.1 ∧ Cells u (⟨w3.heap.size, 0, none⟩ : Addr) c.1 := fun k => (box (k1641.trans k (fun _ _ h => h.elim)) (fun _ h => h)).2
  refine Split.yes rfl (Split.yes rfl (row48.hs.load (i := 0) (by omega) rfl ⟨c.1, ⟨c.2.1, (bx k4148).2.2⟩, ⟨c.2.ints, c.2.ints⟩, ?_⟩))
  rw [sameInts_eq]
  refine Split.yes (decide_eq_true rfl) ⟨b.1, ⟨b.2.1, (bx k4148).2.1⟩, c.1, ⟨c.2.1, (bx k4148).2.2⟩, reach_Before (hV.same k4148) (by simp) b c fun w55 t ht k55 => ⟨t, rfl, ?_⟩⟩
  have k4155 := k4148.trans k55 (fun _ _ h => h)
  refine Split.yes (ht.2 ((hA4 b).2 (.inr (.inl rfl)))) ⟨b.1, ⟨b.2.1, (bx k4155).2.1⟩, c.1, ⟨c.2.1, (bx k4155).2.2⟩, reach_Chain (hV.same k4155) b c fun w60 t2 ht2 k60 => ⟨t2, rfl, ?_⟩⟩
  have k4160 := k4155.trans k60 (fun _ _ h => h)
  have e2 : t2 = false := by
    cases t2 with
    | false => rfl
    | true => exact absurd (ht2.1 rfl) q2
  subst e2
  refine Split.yes rfl ⟨a.1, ⟨a.2.1, (bx k4160).1⟩, c.1, ⟨c.2.1, (bx k4160).2.2⟩, reach_Chain (hV.same k4160) a c fun w65 t3 ht3 k65 => ⟨t3, rfl, ?_⟩⟩
  rw [ht3.2 q1]
  exact hK w65 (kw41.trans (k4160.trans k65 (fun _ _ h => h)) (fun _ _ h => h))
end
end Go.Proofs.YtgfkpemnkmebkaaDoor
/-
  same: both indexes say the same of who stands ahead of whom, on whose chain.
-/
namespace Go.Proofs.YtgfkpemnkmebkaaDoor
open Go Go.Lite Go.RowKit

section
variable {w w' : World} {S F FR : Nat → Prop} {x r : Nat} {D : DG} {P : List Int} {m : XM} {K : Value → World → Prop}
end
end Go.Proofs.YtgfkpemnkmebkaaDoor
/-
  The walk of ReachPlays.
-/
namespace Go.Proofs.YtgfkpemnkmebkaaDoor
open Go Go.Lite Go.RowKit

section
variable {w w' : World} {FP : Nat → Prop} {K : Value → World → Prop}
end
end Go.Proofs.YtgfkpemnkmebkaaDoor
/-
  The walk of ReachCovers.
-/
namespace Go.Proofs.YtgfkpemnkmebkaaDoor
open Go Go.Lite Go.RowKit

section
variable {w w' : World} {S F FR FP : Nat → Prop} {x r : Nat} {D : DG} {P : List Int} {K : Value → World → Prop}
theorem coverL_len (h : HT) : (coverL D P h).length ≤ D.length := pick_len D fun c => Cov D P h c
theorem mem_coverL (W : WfD D) {h c : HT} : c ∈ coverL D P h ↔ Cov D P h c := by
  unfold coverL
  rw [mem_pick]
  exact ⟨fun h => h.2, fun h => ⟨(h.1.mem W).2, h⟩⟩
/-- who stands ahead, as the loop finds it -/
theorem by_ok (W : WfD D) (H : Sel D P) {a b : HT} : ((a ≠ b ∧ Ch D P a b) ∨ ∃ c ∈ coverL D P a, Ch D P c b) ↔ Anc D a b := by
  have hm : (∃ c ∈ coverL D P a, Ch D P c b) ↔ ∃ c, Cov D P a c ∧ Ch D P c b := by
    constructor
    · rintro ⟨c, h1, h2⟩; exact ⟨c, (mem_coverL W).1 h1, h2⟩
    · rintro ⟨c, h1, h2⟩; exact ⟨c, (mem_coverL W).2 h1, h2⟩
  rw [hm]
  by_cases e : a = b
  · subst e
    constructor
    · rintro (⟨h, _⟩ | ⟨c, h1, h2⟩)
      · exact absurd rfl h
      · rcases h2.anc W H with e | e
        · rw [e] at h1; exact absurd h1.1 (Anc.irrefl W _)
        · exact absurd (h1.1.trans e) (Anc.irrefl W _)
    · exact fun h => absurd h (Anc.irrefl W _)
  · rw [anc_by W H e]
    constructor
    · rintro (⟨_, h⟩ | h)
      · exact .inl h
      · exact .inr h
    · rintro (h | h)
      · exact .inl ⟨e, h⟩
      · exact .inr h
/-- the covers are the same; then what follows -/
theorem covers_tail (hR : IsR2 w FR r D P) (hD : D.length ≤ 5000) {A Ac : Option Addr} {n nc cc i : Nat} {l : List HT} {h : HT} (hl : HS w A n l) (hh : l[i]? = some h) (hin : i < n) (hc : HS w Ac nc (coverL D P h)) {R Z : World → Prop} (hZ : ∀ u, Kept Nil w u → Z u) :
    (0 ≤ (i : Int) ∧ (i : Int) < (n : Int)) ∧ Is A fun a : Addr => ∃ t : Array Value, (t.size = 32 ∧ Cells w (a.add ((i : Int).toNat * 32)) t) ∧ Ret Tryd.prog ref12_Index_Cover.id #[.pointer (some ⟨r, 0, none⟩), .agg t] w fun v w2 => ∃ A2 : Option Addr, ∃ n2 : Nat, ∃ c2 : Nat, v = .slice A2 n2 c2 ∧
      Ret Tryd.prog ref10_Equal.id #[.slice Ac nc cc, .slice A2 n2 c2] w2 fun v w3 => ∃ b : Bool, v = .bool b ∧ Split (!b) (R w3) (Z w3) := by
  have hcl := hc.len
  have hcl2 := coverL_len (D := D) (P := P) h
  refine hl.load (i := (i : Int)) (by omega) (by rw [Int.toNat_natCast]; exact hh) ?_
  refine ref12_Cover_ok hR hD h fun A2 c2 w2 row2 k2 => ⟨A2, _, c2, rfl, ?_⟩
  refine ref_Equal (hc.same k2) (HRow.hs row2) (by omega) fun w3 k3 => ⟨_, rfl, Split.no (by rw [decide_eq_true rfl]; rfl) (hZ w3 (k2.trans k3 (fun _ _ h => h)))⟩
/-- how far the loops over all are -/
def CovI (D : DG) (w0 : World) : Bool × Int → World → Prop := fun s v => ∃ i : Nat, s = (false, (i : Int)) ∧ i ≤ D.length + 1 ∧ Kept Nil w0 v
abbrev CovM (D : DG) : Bool × Int → World → Nat := fun s _ => (((D.length + 1 : Nat) : Int) - s.2).toNat
theorem coversX_ok {A : Option Addr} {n c : Nat} {l : List SN} (hl : Stp w FP A n l) (hn : n < 9223372036854775808) (root other : HT) (hT : Tab w) (hK : ∀ w', Kept Nil w w' → K (.bool true) w') :
    Ret Tryd.prog law12_ReachCovers.id #[.agg root.1, .slice A n c, .agg other.1] w K := by
  have hlen := hl.len
  refine law12_ReachCovers.of ?_
  unfold law12_ReachCovers.W
  intro w4 w5
  have k4 : Kept Nil w w4 := (Kept.refl _ _).alloc _
  have hr4 : w4.heap[w.heap.size]? = some (.cells root.1 T_api_Hash (0, 0)) := new_blk w _
  have k5 : Kept Nil w4 w5 := (Kept.refl _ _).alloc _
  have ho5 : w5.heap[w4.heap.size]? = some (.cells other.1 T_api_Hash (0, 0)) := new_blk w4 _
  have hr5 := k5.heap hr4 (fun h => h)
  clear_value w5
  have k05 := k4.trans k5 (fun _ _ h => h)
  refine fewS_ok (hl.same k05) hn 18 fun x hx => ⟨x, rfl, ?_⟩
  cases x with
  | false => exact Split.yes rfl (knownX_ok (hT.same k05) fun w10 k10 => ⟨true, rfl, hK w10 (k05.trans k10 (fun _ _ h => h))⟩)
  | true =>
    obtain ⟨hps, hll⟩ := hx.1 rfl
    refine Split.no rfl ⟨root.1, ⟨root.2.1, Cells.blk hr5⟩, beginX_ok (hl.same k05) (by omega) hps root (hT.same k05) fun w14 S F x FR r B k14 _ _ _ _ => ⟨some ⟨x, 0, none⟩, some ⟨r, 0, none⟩, true, rfl, Split.no rfl ?_⟩⟩
    have k014 := k05.trans k14 (fun _ _ h => h)
    have hDl := buildX_len root l
    generalize (buildX root l).D = D at B hDl
    generalize (buildX root l).P = P at B
    obtain ⟨m, hV, _⟩ := B.X
    have W := hV.W
    have H := hV.sel
    have hX : ∀ {v : World}, Kept Nil w14 v → XV v F x D P m := fun k => hV.same k
    have hR : ∀ {v : World}, Kept Nil w14 v → IsR2 v FR r D P := fun k => B.R.same k
    refine ⟨other.1, ⟨other.2.1, Cells.blk (k14.heap ho5 (fun h => h))⟩, all_ok B.R (by omega) other fun A20 c20 w20 row20 k20 => ⟨A20, _, c20, rfl, ?_⟩⟩
    have hL : ∀ {v : World}, Kept Nil w20 v → HS v A20 (D.length + 1) (other :: ids D) := fun k => (HRow.hs row20).same k
    generalize hal : other :: ids D = al at row20 hL
    have hall : al.length = D.length + 1 := by rw [← hal, List.length_cons, ids_len]
    refine law12_ReachCovers.loop1 (I := CovI D w20) (μ := CovM D) (s := (false, 0)) ⟨0, rfl, by omega, Kept.refl _ _⟩ ?_
    rintro s v ⟨i, rfl, hi, kv⟩
    refine Split.dec (fun hil0 => ?_) (fun hge => ?_)
    · simp only at hil0
      have hil : i < D.length + 1 := by omega
      obtain ⟨h, hh⟩ : ∃ h, al[i]? = some h := ⟨_, List.getElem?_eq_getElem (by omega)⟩
      have hh' : al[((i : Nat) : Int).toNat]? = some h := by rw [Int.toNat_natCast]; exact hh
      intro w27
      have k27 : Kept Nil v w27 := (Kept.refl _ _).drew
      clear_value w27
      have kv27 := kv.trans k27 (fun _ _ h => h)
      have go : ∀ {u : World}, Kept Nil w20 u → Kept Nil w14 u := fun k => k20.trans k (fun _ _ h => h)
      refine Is.mk rfl ((hL kv27).load (i := (i : Int)) (by omega) hh' ?_)
      rw [add_zero]
      refine ref_At (hR (go kv27)).gr (by omega) h fun w32 k32 => ⟨_, rfl, ?_⟩
      have kv32 := kv27.trans k32 (fun _ _ h => h)
      refine (hL kv32).load (i := (i : Int)) (by omega) hh' ?_
      refine reach_Selected (hX (go kv32)) h fun w37 s e hse k37 => ⟨s.1, e, rfl, ?_⟩
      have kv37 := kv32.trans k37 (fun _ _ h => h)
      intro w40
      have k40 : Kept Nil w37 w40 := (Kept.refl _ _).alloc _
      have hb40 : w40.heap[w37.heap.size]? = some (.cells hnull.1 T_api_Hash (0, 0)) := new_blk w37 _
      clear_value w40
      obtain ⟨t1, t2, t3⟩ := hash_set s hb40 rfl
      refine ⟨t1, ?_⟩
      intro w43
      replace t2 : w43.heap[w37.heap.size]? = some (.cells s.1 T_api_Hash (0, 0)) := t2
      replace t3 : Kept (· = w37.heap.size) w40 w43 := t3
      clear_value w43
      have k43 : Kept Nil w37 w43 := k40.trans t3 (fun k hk e => by omega)
      have kv43 := kv37.trans k43 (fun _ _ h => h)
      refine (hL kv43).load (i := (i : Int)) (by omega) hh' ?_
      have next : ∀ {u : World}, Kept Nil w20 u → ∃ s' : Bool × Int, [(6, Value.bool false), (7, .pointer (some ⟨x, 0, none⟩)), (8, .pointer (some ⟨r, 0, none⟩)), (10, .slice A20 (D.length + 1) c20), (11, .int .i64 (IntKind.i64.wrap ((i : Int) + (1 : Int))))] = law12_ReachCovers.e1 (some ⟨x, 0, none⟩) (some ⟨r, 0, none⟩) A20 (D.length + 1) c20 s' ∧ CovI D w20 s' u ∧ CovM D s' u < CovM D (false, (i : Int)) v := fun k => by
        rw [wrapP (n := (i : Int)) (by omega) (by omega)]
        exact ⟨(false, (i : Int) + 1), rfl, ⟨i + 1, rfl, hil, k⟩, by simp only [CovM]; omega⟩
      refine reach_Cover (hX (go kv43)) (by omega) h (fun w47 hno k47 => ⟨none, 0, 0, 6, rfl, ?_⟩) (fun A47 c47 w47 hin row47 k47 => ⟨A47, _, c47, 0, rfl, ?_⟩)
      · -- not there
        have kv47 := kv43.trans k47 (fun _ _ h => h)
        have hat : atI D h < 0 := by have := atI_neg.2 hno; omega
        have e6 : e = 6 := by
          rcases hse with ⟨_, e⟩ | ⟨e, _⟩
          · exact e
          · exact absurd ((Anc.one (e.par H)).mem W).2 hno
        refine Split.yes (decide_eq_true hat) (Split.no (by rw [e6]; rfl) (Split.no rfl ?_))
        exact next kv47
      · have kv47 := kv43.trans k47 (fun _ _ h => h)
        obtain ⟨nd, hnd, hid⟩ := ids_mem.1 hin
        obtain ⟨j, hj⟩ := List.mem_iff_getElem?.1 hnd
        have hat : atI D h = (j : Int) := by rw [← hid]; exact atI_at W hj
        rw [hat]
        refine Split.no (decide_eq_false (by omega)) ?_
        intro w50
        have k50 : Kept Nil w47 w50 := (Kept.refl _ _).drew
        clear_value w50
        have kv50 := kv47.trans k50 (fun _ _ h => h)
        have hb50 := k50.heap (k47.heap t2 (fun h => h)) (fun h => h)
        have hc50 : ∀ {u : World}, Kept Nil w50 u → HS u A47 (coverL D P h).length (coverL D P h) := fun k => ((HRow.hs row47).same k50).same k
        have hcl := coverL_len (D := D) (P := P) h
        -- all the others
        have rest : ∀ u, Kept Nil w50 u → Holds none [] Tryd.prog _ (.loop _) (law12_ReachCovers.q2 (roundQ (law12_ReachCovers.e1 (some ⟨x, 0, none⟩) (some ⟨r, 0, none⟩) A20 (D.length + 1) c20) (CovI D w20) (CovM D) (false, (i : Int)) v (law12_ReachCovers.q1 K))) (law12_ReachCovers.e2 (some ⟨x, 0, none⟩) (some ⟨r, 0, none⟩) A20 (D.length + 1) c20 (i : Int) A47 (coverL D P h).length c47 (false, 0)) u := fun u ku => by
          have kvu := kv50.trans ku (fun _ _ h => h)
          refine law12_ReachCovers.loop2 (I := CovI D w50) (μ := CovM D) (s := (false, 0)) ⟨0, rfl, by omega, ku⟩ ?_
          rintro s u2 ⟨k, rfl, hk, ku2⟩
          have kvu2 := kv50.trans ku2 (fun _ _ h => h)
          refine Split.dec (fun hkl0 => ?_) (fun hgek => ?_)
          · simp only at hkl0
            have hkl : k < D.length + 1 := by omega
            obtain ⟨y, hy⟩ : ∃ y, al[k]? = some y := ⟨_, List.getElem?_eq_getElem (by omega)⟩
            have hy' : al[((k : Nat) : Int).toNat]? = some y := by rw [Int.toNat_natCast]; exact hy
            intro w108
            have k108 : Kept Nil u2 w108 := (Kept.refl _ _).drew
            clear_value w108
            have ku108 := ku2.trans k108 (fun _ _ h => h)
            have kv108 := kv50.trans ku108 (fun _ _ h => h)
            -- the covers, one by one
            have inner : ∀ (t : Bool) (u3 : World), (t = true ↔ h ≠ y ∧ Ch D P h y) → Kept Nil w50 u3 → Holds none [] Tryd.prog _ (.loop _) (law12_ReachCovers.q3 (roundQ (law12_ReachCovers.e2 (some ⟨x, 0, none⟩) (some ⟨r, 0, none⟩) A20 (D.length + 1) c20 (i : Int) A47 (coverL D P h).length c47) (CovI D w50) (CovM D) (false, (k : Int)) u2 (law12_ReachCovers.q2 (roundQ (law12_ReachCovers.e1 (some ⟨x, 0, none⟩) (some ⟨r, 0, none⟩) A20 (D.length + 1) c20) (CovI D w20) (CovM D) (false, (i : Int)) v (law12_ReachCovers.q1 K))))) (law12_ReachCovers.e3 false (some ⟨x, 0, none⟩) (some ⟨r, 0, none⟩) A20 (D.length + 1) c20 (i : Int) A47 (coverL D P h).length c47 (k : Int) (t, 0)) u3 := fun t u3 ht ku3 => by
              refine law12_ReachCovers.loop3 (I := fun s v => ∃ (b : Bool) (q : Nat), s = (b, (q : Int)) ∧ q ≤ (coverL D P h).length ∧ (b = true ↔ (h ≠ y ∧ Ch D P h y) ∨ ∃ c ∈ (coverL D P h).take q, Ch D P c y) ∧ Kept Nil w50 v) (μ := fun s _ => (((coverL D P h).length : Int) - s.2).toNat) (s := (t, 0)) ⟨t, 0, rfl, Nat.zero_le _, by rw [ht]; simp, ku3⟩ ?_
              rintro s u4 ⟨b, q, rfl, hq, hb, ku4⟩
              refine Split.dec (fun hql0 => ?_) (fun hgeq => ?_)
              · simp only at hql0
                have hql : q < (coverL D P h).length := by omega
                obtain ⟨z, hz⟩ : ∃ z, (coverL D P h)[q]? = some z := ⟨_, List.getElem?_eq_getElem hql⟩
                intro w136
                have k136 : Kept Nil u4 w136 := (Kept.refl _ _).drew
                clear_value w136
                have ku136 := ku4.trans k136 (fun _ _ h => h)
                cases b with
                | true =>
                  refine Split.yes rfl ?_
                  simp only
                  rw [wrapP (n := (q : Int)) (by omega) (by omega)]
                  refine ⟨(true, (q : Int) + 1), rfl, ⟨true, q + 1, rfl, hql, ⟨fun _ => ?_, fun _ => rfl⟩, ku136⟩, by simp only; omega⟩
                  rcases hb.1 rfl with e | ⟨c, h1, h2⟩
                  · exact .inl e
                  · exact .inr ⟨c, (mem_take_succ hz).2 (.inl h1), h2⟩
                | false =>
                  refine Split.no rfl ?_
                  refine (hc50 ku136).load (i := (q : Int)) (by omega) (by rw [Int.toNat_natCast]; exact hz) ?_
                  refine (hL (kv50.trans ku136 (fun _ _ h => h))).load (i := (k : Int)) (by omega) hy' ?_
                  refine reach_Chain (hX (go (kv50.trans ku136 (fun _ _ h => h)))) z y fun w142 b2 hb2 k142 => ⟨b2, rfl, ?_⟩
                  simp only
                  rw [wrapP (n := (q : Int)) (by omega) (by omega)]
                  refine ⟨(b2, (q : Int) + 1), rfl, ⟨b2, q + 1, rfl, hql, ?_, ku136.trans k142 (fun _ _ h => h)⟩, by simp only; omega⟩
                  rw [hb2]
                  constructor
                  · exact fun e => .inr ⟨z, (mem_take_succ hz).2 (.inr rfl), e⟩
                  · rintro (e | ⟨c, h1, h2⟩)
                    · have := hb.2 (.inl e); cases this
                    · rcases (mem_take_succ hz).1 h1 with h1 | rfl
                      · have := hb.2 (.inr ⟨c, h1, h2⟩); cases this
                      · exact h2
              · simp only at hgeq
                have hqe : q = (coverL D P h).length := by omega
                subst hqe
                rw [List.take_of_length_le (Nat.le_refl _), by_ok W H] at hb
                rw [roundQ_exit, law12_ReachCovers.x3_4]
                unfold law12_ReachCovers.X3_4
                intro w153
                have k153 : Kept Nil u4 w153 := (Kept.refl _ _).drew
                clear_value w153
                have ku153 := ku4.trans k153 (fun _ _ h => h)
                have kv153 := kv50.trans ku153 (fun _ _ h => h)
                refine (hL kv153).load (i := (i : Int)) (by omega) hh' ((hL kv153).load (i := (k : Int)) (by omega) hy' ?_)
                refine reach_Before (hX (go kv153)) (by omega) h y fun w159 b2 hb2 k159 => ⟨b2, rfl, ?_⟩
                have e : b = b2 := by rw [Bool.eq_iff_iff, hb, hb2]
                refine Split.no (by rw [e]; simp) ?_
                rw [wrapP (n := (k : Int)) (by omega) (by omega)]
                exact ⟨(false, (k : Int) + 1), rfl, ⟨k + 1, rfl, hkl, ku153.trans k159 (fun _ _ h => h)⟩, by simp only [CovM]; omega⟩
            refine (hL kv108).load (i := (i : Int)) (by omega) hh' ((hL kv108).load (i := (k : Int)) (by omega) hy' ⟨⟨h.2.ints, y.2.ints⟩, ?_⟩)
            rw [sameInts_eq]
            by_cases he : h = y
            · exact Split.no (by rw [decide_eq_true he]; rfl) (inner false w108 ⟨(fun e => by cases e), fun e => absurd he e.1⟩ ku108)
            · refine Split.yes (by rw [decide_eq_false he]; rfl) ((hL kv108).load (i := (i : Int)) (by omega) hh' ((hL kv108).load (i := (k : Int)) (by omega) hy' ?_))
              refine reach_Chain (hX (go kv108)) h y fun w118 b hb k118 => ⟨b, rfl, ?_⟩
              exact inner b w118 ⟨fun e => ⟨he, hb.1 e⟩, fun e => hb.2 e.2⟩ (ku108.trans k118 (fun _ _ h => h))
          · rw [roundQ_exit, law12_ReachCovers.x2_2]
            exact next kvu2
        by_cases hj0 : j = 0
        · subst hj0
          have e6 : e = 6 := by
            rcases hse with ⟨_, e⟩ | ⟨hs, _⟩
            · exact e
            · exfalso
              obtain ⟨i1, i2, m1, m2, h12, _, h2, _, e2⟩ := (Anc.one (hs.par H)).at_ W
              have := W.inj h2 hj (by rw [e2, hid])
              omega
          refine Split.yes rfl (Split.no (by rw [e6]; rfl) (Split.no rfl (Split.no rfl ?_)))
          exact covers_tail (hR (go kv50)) (by omega) (hL kv50) hh hil (hc50 (Kept.refl _ _)) rest
        · have hso : SelOf D P s h ∧ e = 0 := by
            rcases hse with ⟨h1, _⟩ | h1
            · exact absurd (h1 j nd hj hid) hj0
            · exact h1
          obtain ⟨hso, e0⟩ := hso
          obtain ⟨q, mj, hq, hPq, hmq, hso2⟩ := SelOf.ex H (by omega) hj
          rw [hid] at hso2
          have es := SelOf.one W hso hso2
          obtain ⟨A1, c1, B1, e1, sl, h1, h2, h3, h4, h5⟩ := (hR (go kv50)).ex
          have hjl := (List.getElem?_eq_some_iff.1 hj).1
          refine Split.no (by simp only [beq_eq_false_iff_ne, ne_eq]; omega) (Split.yes (decide_eq_true (by omega)) (Split.no (by rw [e0]; rfl) ?_))
          refine ⟨s.1, ⟨s.2.1, Cells.blk hb50⟩, Is.mk rfl ⟨B1, D.length, e1, by rw [add_at, cell_blk h1]; rfl, h3.load (i := (j : Int)) (by omega) (by rw [Int.toNat_natCast]; exact h5.2 j q mj hPq hmq) ⟨⟨s.2.ints, mj.id.2.ints⟩, ?_⟩⟩⟩
          rw [sameInts_eq]
          refine Split.no (by rw [decide_eq_true es]; rfl) (Split.no rfl ?_)
          exact covers_tail (hR (go kv50)) (by omega) (hL kv50) hh hil (hc50 (Kept.refl _ _)) rest
    · rw [roundQ_exit, law12_ReachCovers.x1_0]
      have k020 := (k014.trans k20 (fun _ _ h => h)).trans kv (fun _ _ h => h)
      exact knownX_ok (hT.same k020) fun w10 k10 => ⟨true, rfl, hK w10 (k020.trans k10 (fun _ _ h => h))⟩
end
end Go.Proofs.YtgfkpemnkmebkaaDoor
