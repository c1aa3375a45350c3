/-
  The document's index: New, Add, Up, Chain.
-/
import Derived.Test.YtgfkpemnkmebkaaDoorMI
import Derived.Test.YtgfkpemnkmebkaaDoorMG
import Derived.Test.YtgfkpemnkmebkaaDoorMF
namespace Go.Proofs.YtgfkpemnkmebkaaDoor
open Go Go.Lite Go.RowKit

/-- the selected ones, in a row -/
def SelL (D : DG) (P : List Int) (l : List HT) : Prop := l.length = D.length ∧ ∀ (i j : Nat) (m : DN), P[i]? = some (j : Int) → D[j]? = some m → l[i]? = some m.id
structure IsR2 (w : World) (F : Nat → Prop) (r : Nat) (D : DG) (P : List Int) : Prop where
  ex : ∃ (A : Option Addr) (c : Nat) (B : Option Addr) (e : Nat) (l : List HT), w.heap[r]? = some (.cells #[.slice A D.length c, .slice B D.length e] T_plexusref12_Index (0, 0)) ∧ NS w F A D.length D ∧ HS w B D.length l ∧ (∀ a, B = some a → F a.block) ∧ SelL D P l
  far : ¬ F r
  sel : Sel D P
  W : WfD D
section
variable {w w' : World} {F F' S : Nat → Prop} {r : Nat} {D : DG} {P : List Int} {K : Value → World → Prop}
theorem IsR2.keep (h : IsR2 w F r D P) (hk : Kept S w w') (hr : ¬ S r) (hn : ∀ k, F k → ¬ S k) : IsR2 w' F r D P := by
  obtain ⟨A, c, B, e, l, h1, h2, h3, h4, h5⟩ := h.ex
  exact ⟨⟨A, c, B, e, l, hk.heap h1 hr, h2.keep hk hn, h3.keep hk (fun a ha => hn _ (h4 a ha)), h4, h5⟩, h.far, h.sel, h.W⟩
theorem IsR2.same (h : IsR2 w F r D P) (hk : Kept Nil w w') : IsR2 w' F r D P := h.keep hk (fun h => h) (fun _ _ h => h)
theorem IsR2.lt (h : IsR2 w F r D P) : r < w.heap.size := by obtain ⟨A, c, B, e, l, h1, _⟩ := h.ex; exact lt_blk h1
theorem IsR2.mono (h : IsR2 w F r D P) (hf : ∀ k, F k → F' k) (hr : ¬ F' r) : IsR2 w F' r D P := by
  obtain ⟨A, c, B, e, l, h1, h2, h3, h4, h5⟩ := h.ex
  exact ⟨⟨A, c, B, e, l, h1, h2.mono hf, h3, fun a ha => hf _ (h4 a ha), h5⟩, hr, h.sel, h.W⟩
theorem IsR2.gr (h : IsR2 w F r D P) : IsR w F r D := by
  obtain ⟨A, c, B, e, l, h1, h2, _⟩ := h.ex
  exact ⟨⟨A, c, _, _, h1, rfl, h2⟩, h.far⟩
theorem atI_at (W : WfD D) {j : Nat} {nd : DN} (h : D[j]? = some nd) : atI D nd.id = (j : Int) := by unfold atI; rw [W.pos_eq h]
/-- Up -/
theorem ref12_Up (H : IsR2 w F r D P) (hD : D.length ≤ 10000) (h : HT) (hK : ∀ A c w' l, ChainL D P h l → HRow w' w.heap.size A l.length c l → Kept Nil w w' → K (.slice A l.length c) w') :
    Ret Tryd.prog ref12_Index_Up.id #[.pointer (some ⟨r, 0, none⟩), .agg h.1] w K := by
  have W := H.W
  have hpar := H.sel.par
  refine ref12_Index_Up.of ?_
  unfold ref12_Index_Up.W
  intro w3 w4
  have k3 : Kept Nil w w3 := (Kept.refl _ _).alloc _
  have hb3 : w3.heap[w.heap.size]? = some (.cells h.1 T_api_Hash (0, 0)) := new_blk w _
  have k4 : Kept Nil w3 w4 := (Kept.refl _ _).drew
  clear_value w4
  have hb4 := k4.heap hb3 (fun h => h)
  have k04 := k3.trans k4 (fun _ _ h => h)
  refine ⟨h.1, ⟨h.2.1, Cells.blk hb4⟩, ?_⟩
  rw [add_zero]
  refine ref_At (H.gr.same k04) (by omega) h fun w8 k8 => ⟨_, rfl, ?_⟩
  have k08 := k04.trans k8 (fun _ _ h => h)
  have hb8 := k8.heap hb4 (fun h => h)
  have s08 := k08.size
  have l08 := lt_blk hb8
  by_cases hm : ¬ h ∈ ids D
  · have hneg := atI_neg.2 hm
    refine ref12_Index_Up.loop1 (I := fun s v => s = (none, 0, 0, atI D h) ∧ v = w8) (μ := fun _ _ => 0) (s := (none, 0, 0, atI D h)) ⟨rfl, rfl⟩ ?_
    rintro s v ⟨rfl, rfl⟩
    refine Split.no (decide_eq_false (by simp only; omega)) ?_
    simp only
    rw [roundQ_exit, ref12_Index_Up.x1_0]
    exact hK none 0 v [] (.inl ⟨hm, rfl⟩) (HRow.nil _ _) k08
  replace hm := Classical.not_not.1 hm
  obtain ⟨nd, hnd, hid⟩ := ids_mem.1 hm
  obtain ⟨i, hi⟩ := List.mem_iff_getElem?.1 hnd
  have hil := (List.getElem?_eq_some_iff.1 hi).1
  obtain ⟨ks, hks⟩ := Up.ex hpar i (by rw [H.sel.len]; exact hil)
  have hkl := hks.len hpar
  refine ref12_Index_Up.loop1 (I := fun s v => ∃ (k : Nat) (nk : DN) (dn rs : List Nat) (A : Option Addr) (c : Nat), s = (A, dn.length, c, (k : Int)) ∧ ks = dn ++ rs ∧ Up P k rs ∧ D[k]? = some nk ∧ v.heap[w.heap.size]? = some (.cells nk.id.1 T_api_Hash (0, 0)) ∧ HRow v w8.heap.size A dn.length c (dn.map (idAt D)) ∧ Kept (· = w.heap.size) w8 v)
    (μ := fun s _ => s.2.2.2.toNat) (s := (none, 0, 0, atI D h)) ⟨i, nd, [], ks, none, 0, by rw [← hid, atI_at W hi]; rfl, rfl, hks, hi, by rw [hid]; exact hb8, HRow.nil _ _, Kept.refl _ _⟩ ?_
  rintro s v ⟨k, nk, dn, rs, A, c, rfl, hsp, hur, hnk, hbv, row, kv⟩
  have hklt := (List.getElem?_eq_some_iff.1 hnk).1
  have k0v : Kept Nil w v := k08.trans kv (fun q hq e => by omega)
  have sv := kv.size
  refine Split.yes (decide_eq_true (by simp only; omega)) ⟨nk.id.1, ⟨nk.id.2.1, Cells.blk hbv⟩, nk.id.2.1, ?_⟩
  intro w16
  have k16 : Kept Nil v w16 := (Kept.refl _ _).alloc _
  have hb16 : HS w16 (some ⟨v.heap.size, 0, none⟩) 1 [nk.id] := hbox v nk.id
  clear_value w16
  have hdl : dn.length ≤ ks.length := by rw [hsp]; simp
  have s16 := k16.size
  obtain ⟨A2, c2, w18, hr18, row18, hg18, _⟩ := append_hs (cx := 1) T_sl_api_Hash (Row.keep row k16 (fun _ _ h => h)) hb16 (by omega) (by omega)
  have k18 : Kept (· = w.heap.size) w8 w18 := (kv.trans k16 (fun _ _ h => h.elim)).grown hg18 (fun q hq hlt => by have := (Row.blk row hq).1; omega)
  have k018 : Kept Nil w w18 := k08.trans k18 (fun q hq e => by omega)
  have hrowid : dn.map (idAt D) ++ [nk.id] = (dn ++ [k]).map (idAt D) := by simp [idAt_get hnk]
  rw [hrowid] at row18
  have hb18 : w18.heap[w.heap.size]? = some (.cells nk.id.1 T_api_Hash (0, 0)) := by
    have hkg : Kept (fun q => blkOf A = some q) w16 w18 := Kept.grown (Kept.refl _ _) hg18 (fun q hq _ => hq)
    exact hkg.heap (k16.heap hbv (fun h => h)) (fun e => by have := (Row.blk row e).1; omega)
  refine ⟨A2, _, c2, w18, hr18, ?_⟩
  cases hur with
  | root =>
    refine Split.yes rfl ?_
    simp only
    rw [roundQ_exit, ref12_Index_Up.x1_0]
    have e : (ks.map (idAt D)).length = dn.length + 1 := by rw [hsp]; simp
    have := hK A2 c2 w18 (ks.map (idAt D)) (.inr ⟨i, nd, ks, hi, hid, hks, rfl⟩) (by rw [e, hsp]; exact Row.base row18 (fun b hb => Nat.le_trans s08 (Row.blk row18 hb).1)) k018
    rwa [e] at this
  | @step _ j rs' hj hu' =>
    have hjk := (Tr.kids_lt hpar (Tr.mem_kids.2 hj)).1
    refine Split.no (by simp only [beq_eq_false_iff_ne, ne_eq]; omega) ?_
    obtain ⟨A0, c0, B, e, l, h1, h2, h3, h4, h5⟩ := (H.same k018).ex
    obtain ⟨nj, hnj⟩ : ∃ nj, D[j]? = some nj := ⟨_, List.getElem?_eq_getElem (by omega)⟩
    refine ⟨B, D.length, e, by rw [add_at, cell_blk h1]; rfl, ?_⟩
    refine h3.load (i := (k : Int)) (by omega) (by rw [Int.toNat_natCast]; exact h5.2 k j nj hj hnj) ?_
    obtain ⟨g1, g2, g3⟩ := set_box hb18 (cs := nj.id.1) (by rw [nj.id.2.1, nk.id.2.1])
    refine ⟨⟨nj.id.2.1, nj.id.2.one, fun q hq => g1 q (by rw [nj.id.2.1]; exact hq)⟩, ?_⟩
    intro w25 w26
    replace g2 : w25.heap[w.heap.size]? = some (.cells nj.id.1 T_api_Hash (0, 0)) := g2
    replace g3 : Kept (· = w.heap.size) w18 w25 := g3
    have k26 : Kept Nil w25 w26 := (Kept.refl _ _).drew
    clear_value w26 w25
    have g2' := k26.heap g2 (fun h => h)
    have k826 : Kept (· = w.heap.size) w8 w26 := (k18.trans g3 (fun _ _ h => h)).trans k26 (fun _ _ h => h.elim)
    have k026 : Kept Nil w w26 := k08.trans k826 (fun q hq e => by omega)
    refine ⟨nj.id.1, ⟨nj.id.2.1, Cells.blk g2'⟩, ?_⟩
    rw [add_zero]
    refine ref_At (H.gr.same k026) (by omega) nj.id fun w30 k30 => ⟨_, rfl, ?_⟩
    rw [atI_at W hnj]
    refine ⟨(A2, dn.length + 1, c2, (j : Int)), rfl, ⟨j, nj, dn ++ [k], rs', A2, c2, by simp, by rw [hsp]; simp, hu', hnj, k30.heap g2' (fun h => h), ?_, k826.trans k30 (fun _ _ h => h.elim)⟩, by simp only; omega⟩
    rw [List.length_append]
    exact Row.keep (Row.keep (Row.keep row18 g3 (fun q hq e => by have := (Row.blk row18 hq).1; omega)) k26 (fun _ _ h => h)) k30 (fun _ _ h => h)
end
end Go.Proofs.YtgfkpemnkmebkaaDoor
/-
  The document's index: New, Add.
-/
namespace Go.Proofs.YtgfkpemnkmebkaaDoor
open Go Go.Lite Go.RowKit

theorem set1 (w : World) (r j : Nat) (v : Value) : setCells w ((⟨r, 0, none⟩ : Addr).add j) [v] 0 = w.setCell ⟨r, j, none⟩ v := by
  simp only [setCells]
  rw [add_at, add_at, Nat.add_zero, Nat.zero_add]
theorem Sel.one (r : HT) : Sel [⟨r, []⟩] [-1] := ⟨rfl, rfl, fun i p nd hi hp => by
  cases i with
  | zero => omega
  | succ i => simp at hp⟩
section
variable {w w' : World} {F F' S : Nat → Prop} {r : Nat} {D : DG} {P : List Int} {K : Value → World → Prop}
theorem ref12_New_ok (root : HT) (hK : ∀ v r F, IsR2 v F r [⟨root, []⟩] [-1] → (∀ k, F k → w.heap.size ≤ k ∧ k < v.heap.size) → w.heap.size ≤ r → Kept Nil w v → K (.pointer (some ⟨r, 0, none⟩)) v) :
    Ret Tryd.prog ref12_New.id #[.agg root.1] w K := by
  refine ref12_New.of ?_
  unfold ref12_New.W
  intro w2
  have k2 : Kept Nil w w2 := (Kept.refl _ _).alloc _
  have hb2 : w2.heap[w.heap.size]? = some (.cells root.1 T_api_Hash (0, 0)) := new_blk w _
  clear_value w2
  have hsz : (root.1.push (.slice none 0 0)).size = 33 := by rw [Array.size_push, root.2.1]
  refine ⟨root.1, ⟨root.2.1, Cells.blk hb2⟩, ?_⟩
  rw [builtRef]
  refine Is.mk rfl ⟨hsz, ?_⟩
  intro w5
  have h5 : w5.heap[w2.heap.size]? = some (.cells (root.1.push (.slice none 0 0)) T_plexusref10_Node (0, 0)) := by
    have := new_blk w2 (.cells (root.1.push (.slice none 0 0)) T_plexusref10_Node)
    show (w2.alloc (.cells ((root.1.push (.slice none 0 0)).toList ++ []).toArray T_plexusref10_Node)).heap[w2.heap.size]? = _
    rw [List.append_nil, Array.toArray_toList]
    exact this
  have k5 : Kept Nil w2 w5 := (Kept.refl _ _).alloc _
  clear_value w5
  refine ⟨rfl, ?_⟩
  intro w6
  have h6 : w6.heap[w5.heap.size]? = some (.cells hnull.1 T_api_Hash (0, 0)) := new_blk w5 _
  have k6 : Kept Nil w5 w6 := (Kept.refl _ _).alloc _
  clear_value w6
  intro w7
  have h7 : w7.heap[w6.heap.size]? = some (.cells #[.slice (some ⟨w2.heap.size, 0, none⟩) 1 1, .slice (some ⟨w5.heap.size, 0, none⟩) 1 1] T_plexusref12_Index (0, 0)) := new_blk w6 _
  have k7 : Kept Nil w6 w7 := (Kept.refl _ _).alloc _
  clear_value w7
  have s2 := k2.size
  have s5 := k5.size
  have s6 := k6.size
  have l5 := lt_blk h5
  have l6 := lt_blk h6
  have h57 := k7.heap (k6.heap h5 (fun h => h)) (fun h => h)
  have h67 := k7.heap h6 (fun h => h)
  have l67 := lt_blk h67
  refine hK w7 _ (fun k => k = w2.heap.size ∨ k = w5.heap.size) ⟨⟨_, _, _, _, [hnull], h7, ⟨rfl, fun i nd hi => ?_⟩, HS.one h67, fun a ha => by cases ha; exact .inr rfl, ⟨rfl, fun i j m hi hj => ?_⟩⟩, fun e => by omega, Sel.one root, WfD.root root⟩ (fun k e => by omega) (by omega) (((k2.trans k5 (fun _ _ h => h)).trans k6 (fun _ _ h => h)).trans k7 (fun _ _ h => h))
  · cases i with
    | zero =>
      simp at hi
      subst hi
      refine ⟨_, none, 0, 0, rfl, lt_blk h57, .inl rfl, fun j u hj => ?_, HS.nil _ _, fun b hb => by cases hb⟩
      rw [Nat.zero_mul, add_zero, add_at, Nat.zero_add, cell_blk h57]
      exact hj
    | succ i => simp at hi
  · cases i with
    | zero => simp at hi
    | succ i => simp at hi
theorem SelL.snoc {l : List HT} (h : SelL D P l) (hs : Sel D P) (W : WfD D) {nd : DN} {j : Nat} {mj : DN} (hj : D[j]? = some mj) : SelL (D ++ [nd]) (P ++ [(j : Int)]) (l ++ [mj.id]) := by
  have hjl := (List.getElem?_eq_some_iff.1 hj).1
  refine ⟨by simp [h.1], fun i k m hi hm => ?_⟩
  by_cases hil : i < P.length
  · rw [List.getElem?_append_left hil] at hi
    have hil' : i < D.length := by rw [← hs.len]; exact hil
    rw [List.getElem?_append_left (by rw [h.1]; exact hil')]
    have hpar := hs.par
    have hk : k < D.length := by
      rcases Nat.eq_zero_or_pos i with rfl | h0
      · rw [hpar.root] at hi; simp only [Option.some.injEq] at hi; omega
      · obtain ⟨j', h1, h2⟩ := hpar.up i _ h0 hi
        omega
    rw [List.getElem?_append_left hk] at hm
    exact h.2 i k m hi hm
  · have hil2 := (List.getElem?_eq_some_iff.1 hi).1
    have e : i = P.length := by simp at hil2; omega
    subst e
    simp at hi
    have : k = j := by omega
    subst this
    rw [List.getElem?_append_left hjl, hj] at hm
    cases hm
    rw [hs.len, ← h.1]
    simp
theorem ref12_Add (H : IsR2 w F r D P) (hF : ∀ k, F k → k < w.heap.size) (hD : D.length ≤ 5000) {h s : HT} {lp : List HT} {A : Option Addr} {n c : Nat} (hl : HS w A n lp) (hn : n ≤ 100000)
    (hK : ∀ w', IsR2 w' (fun k => F k ∨ (w.heap.size ≤ k ∧ k < w'.heap.size)) r (addXD D h s lp) (addXP D P h s lp) → Kept (· = r) w w' → K (.int .i64 (addXC D h s lp)) w') :
    Ret Tryd.prog ref12_Index_Add.id #[.pointer (some ⟨r, 0, none⟩), .agg h.1, .agg s.1, .slice A n c] w K := by
  have hrlt := H.lt
  have W := H.W
  have hno : ∀ w', Kept Nil w w' → ∀ e, addXC D h s lp = e → e ≠ 0 → K (.int .i64 e) w' := fun w' k e he hne => by
    have := hK w' ?_ (k.mono fun _ _ h => h.elim)
    · rw [he] at this; exact this
    · unfold addXD addXP
      rw [if_neg (by rw [he]; exact hne), if_neg (by rw [he]; exact hne)]
      exact (H.same k).mono (fun _ h => .inl h) (fun e => e.elim H.far (fun h => by omega))
  refine ref12_Index_Add.of ?_
  unfold ref12_Index_Add.W
  intro w5 w6
  have k5 : Kept Nil w w5 := (Kept.refl _ _).alloc _
  have hi5 : w5.heap[w.heap.size]? = some (.cells h.1 T_api_Hash (0, 0)) := new_blk w _
  have k6 : Kept Nil w5 w6 := (Kept.refl _ _).alloc _
  have hs6 : w6.heap[w5.heap.size]? = some (.cells s.1 T_api_Hash (0, 0)) := new_blk w5 _
  clear_value w6
  have hi6 := k6.heap hi5 (fun h => h)
  have k06 := k5.trans k6 (fun _ _ h => h)
  have s5 := k5.size
  have s6 := k6.size
  have l5 := lt_blk hi5
  have l6 := lt_blk hs6
  clear_value w5
  obtain ⟨A0, c0, B0, e0, sl, htop, hns, hsl, hB0, hSel⟩ := H.ex
  have htop6 := k06.heap htop (fun h => h)
  refine Is.mk rfl ⟨#[.slice A0 D.length c0], ⟨rfl, fun j v hj => ?_⟩, ?_⟩
  · cases j with
    | zero =>
      rw [add_zero, add_zero, cell_blk htop6]
      simpa using hj
    | succ j => simp at hj
  intro w9
  have h9 : w9.heap[w6.heap.size]? = some (.cells #[.slice none 0 0] T_plexusref10_Graph (0, 0)) := new_blk w6 _
  have k9 : Kept Nil w6 w9 := (Kept.refl _ _).alloc _
  clear_value w9
  obtain ⟨g1, g2, g3⟩ := set_box h9 (cs := #[.slice A0 D.length c0]) rfl
  refine ⟨⟨rfl, fun u hu => ?_, fun j hj => g1 j hj⟩, ?_⟩
  · simp at hu
    subst hu
    rfl
  intro w12
  replace g2 : w12.heap[w6.heap.size]? = some (.cells #[.slice A0 D.length c0] T_plexusref10_Graph (0, 0)) := g2
  replace g3 : Kept (· = w6.heap.size) w9 w12 := g3
  clear_value w12
  have k612 : Kept Nil w6 w12 := k9.trans g3 (fun k hk e => by omega)
  have k012 := k06.trans k612 (fun _ _ h => h)
  refine ⟨h.1, ⟨h.2.1, Cells.blk (k612.heap hi6 (fun h => h))⟩, ?_⟩
  have hR : IsR w12 F w6.heap.size D := ⟨⟨A0, c0, _, _, g2, rfl, hns.same k012⟩, fun e => by have := hF _ e; omega⟩
  have s12 := k012.size
  refine ref_Add hR W (by omega) (hl.same k012) (by omega) fun w15 hR15 k15 => ⟨_, rfl, ?_⟩
  have k015 : Kept Nil w w15 := k012.trans k15 (fun k hk e => by omega)
  by_cases hC : addC D h lp ≠ 0
  · refine Split.yes (by simpa using hC) ?_
    refine hno w15 k015 _ ?_ hC
    unfold addXC
    rw [if_neg hC]
  replace hC := Classical.not_not.1 hC
  refine Split.no (by rw [hC]; rfl) ?_
  have hs15 : w15.heap[w5.heap.size]? = some (.cells s.1 T_api_Hash (0, 0)) := k15.heap (k612.heap hs6 (fun h => h)) (by omega)
  refine ⟨s.1, ⟨s.2.1, Cells.blk hs15⟩, ref_In s (hl.same k015) (by omega) fun w19 k19 => ⟨_, rfl, ?_⟩⟩
  have k019 := k015.trans k19 (fun _ _ h => h)
  by_cases hsm : ¬ s ∈ lp
  · refine Split.yes (by rw [decide_eq_false hsm]; rfl) ?_
    refine hno w19 k019 2 ?_ (by omega)
    unfold addXC
    rw [if_pos hC, if_neg hsm]
  replace hsm := Classical.not_not.1 hsm
  refine Split.no (by rw [decide_eq_true hsm]; rfl) ?_
  have eX : addXC D h s lp = 0 := by unfold addXC; rw [if_pos hC, if_pos hsm]
  obtain ⟨hin, hne, hnd, hall⟩ := addC_ok hC
  obtain ⟨mj, hmj, hms⟩ := ids_mem.1 (hall s (mem_srt.2 hsm))
  obtain ⟨j, hj⟩ := List.mem_iff_getElem?.1 hmj
  have eP : addXP D P h s lp = P ++ [(j : Int)] := by
    unfold addXP
    rw [if_pos eX, ← hms, W.pos_eq hj]
    rfl
  have eD : addXD D h s lp = D ++ [⟨h, srt lp⟩] := by unfold addXD; rw [if_pos eX]
  rw [addD_yes hC] at hR15
  obtain ⟨A1, c1, cs1, t1, h1, hc1, hns1⟩ := (hR15.same k19).ex
  rw [List.length_append, List.length_singleton] at hns1 hc1
  have hg19 : w19.cell? (⟨w6.heap.size, 0, none⟩ : Addr) = some (.slice A1 (D.length + 1) c1) := by rw [cell_blk h1]; exact hc1
  have sz1 := k019.size
  have htop19 := k019.heap htop (fun h => h)
  refine ⟨#[.slice A1 (D.length + 1) c1], ⟨rfl, fun i v hi => ?_⟩, Is.mk rfl ⟨⟨rfl, fun u hu => ?_, fun i hi => ?_⟩, ?_⟩⟩
  · cases i with
    | zero =>
      rw [add_zero, hg19]
      simpa using hi
    | succ i => simp at hi
  · simp at hu
    subst hu
    rfl
  · have : i = 0 := by omega
    subst this
    rw [add_zero, add_zero]
    exact wr_blk htop19 (by simp)
  intro w25 w26
  have hw25 : w25.heap[r]? = some (.cells #[.slice A1 (D.length + 1) c1, .slice B0 D.length e0] T_plexusref12_Index (0, 0)) := by
    show (setCells w19 ((⟨r, 0, none⟩ : Addr).add 0) [.slice A1 (D.length + 1) c1] 0).heap[r]? = _
    rw [set1, set_blk htop19]
    rfl
  have k25 : Kept (· = r) w19 w25 := by
    show Kept (· = r) w19 (setCells w19 ((⟨r, 0, none⟩ : Addr).add 0) [.slice A1 (D.length + 1) c1] 0)
    rw [add_zero]
    exact setCells_kept _ _ _ _
  have k26 : Kept Nil w25 w26 := (Kept.refl _ _).drew
  clear_value w26 w25
  have hw26 := k26.heap hw25 (fun h => h)
  have k1926 : Kept (· = r) w19 w26 := k25.trans k26 (fun _ _ h => h.elim)
  have hsl26 : HS w26 B0 D.length sl := (hsl.same k019).keep k1926 (fun a ha e => H.far (e ▸ hB0 a ha))
  have hs26 : w26.heap[w5.heap.size]? = some (.cells s.1 T_api_Hash (0, 0)) := k1926.heap (k19.heap hs15 (fun h => h)) (fun e => by omega)
  refine Is.mk rfl ⟨B0, D.length, e0, by rw [add_at, cell_blk hw26]; rfl, s.1, ⟨s.2.1, Cells.blk hs26⟩, ?_⟩
  -- what both orders come to
  have fin : ∀ (v : World) (A2 : Option Addr) (c2 : Nat), Kept Nil w26 v → HRow v w26.heap.size A2 (D.length + 1) c2 (sl ++ [s]) →
      Is (some (⟨r, 0, none⟩ : Addr)) fun a => Wr v (a.add 1) ∧ K (.int .i64 0) (v.setCell (a.add 1) (.slice A2 (D.length + 1) c2)) := fun v A2 c2 kv row => by
    refine Is.mk rfl ?_
    rw [add_at]
    have hv := kv.heap hw26 (fun h => h)
    have kf : Kept (· = r) v (v.setCell ⟨r, 0 + 1, none⟩ (.slice A2 (D.length + 1) c2)) := Kept.setCell (S := fun k => k = r) (Kept.refl _ v) (p := ⟨r, 0 + 1, none⟩) (fun _ => rfl) _
    refine ⟨wr_blk hv (by simp), ?_⟩
    have kall : Kept (· = r) w (v.setCell ⟨r, 0 + 1, none⟩ (.slice A2 (D.length + 1) c2)) := (((k019.mono (S' := (· = r)) (fun _ _ h => h.elim)).trans k1926 (fun _ _ h => h)).trans kv (fun _ _ h => h.elim)).trans kf (fun _ _ h => h)
    have := hK (v.setCell ⟨r, 0 + 1, none⟩ (.slice A2 (D.length + 1) c2)) ?_ kall
    · rw [eX] at this
      exact this
    rw [eD, eP]
    have hbA : ∀ b, blkOf A2 = some b → w26.heap.size ≤ b ∧ b < v.heap.size := fun b hb => by
      obtain ⟨q1, cur, q2⟩ := Row.blk row hb
      exact ⟨q1, lt_blk q2⟩
    have s26 := k1926.size
    have sv := kv.size
    have sf := kf.size
    have k1526 : Kept (· = r) w15 w26 := (k19.mono (S' := (· = r)) (fun _ _ h => h.elim)).trans k1926 (fun _ _ h => h)
    refine ⟨⟨A1, c1, A2, c2, sl ++ [s], ?_, ?_, ?_, fun a ha => .inr ?_, ?_⟩, fun e => e.elim H.far (fun e => by omega), H.sel.snoc hj (by rw [hms]; exact mem_srt.2 hsm) (by have := (List.getElem?_eq_some_iff.1 hj).1; omega), W.snoc hin hall (SS_srt lp)⟩
    · rw [List.length_append, List.length_singleton, set_blk hv]
      rfl
    · rw [List.length_append, List.length_singleton]
      have hk' : Kept (· = r) w19 (v.setCell ⟨r, 0 + 1, none⟩ (.slice A2 (D.length + 1) c2)) := (k1926.trans kv (fun _ _ h => h.elim)).trans kf (fun _ _ h => h)
      refine (hns1.keep hk' fun k hk e => ?_).mono fun k hk => ?_
      · rcases hk with hk | hk
        · exact H.far (e ▸ hk)
        · omega
      · rcases hk with hk | hk
        · exact .inl hk
        · have := k19.size
          exact .inr ⟨by omega, by omega⟩
    · rw [List.length_append, List.length_singleton]
      exact (HRow.hs row).keep kf (fun a ha e => by have := hbA a.block (by rw [ha]; rfl); omega)
    · have := hbA a.block (by rw [ha]; rfl)
      exact ⟨by omega, by omega⟩
    · rw [← hms]
      exact hSel.snoc H.sel W hj
  have hcs : ∀ {u : World}, Kept Nil w26 u → ∃ cs : Array Value, (.agg s.1 : Value) = .agg cs ∧ cs.size = 32 ∧ Cells u (⟨w5.heap.size, 0, none⟩ : Addr) cs := fun k => ⟨s.1, rfl, s.2.1, Cells.blk (k.heap hs26 (fun h => h))⟩
  refine ⟨?_, ?_⟩
  · obtain ⟨A3, c3, w31, hr31, row31, hg31, hb31⟩ := append_hs (cx := e0) T_sl_api_Hash (HRow.nil w26 w26.heap.size) hsl26 (by omega) (Nat.le_refl _)
    rw [Nat.zero_add] at hr31 row31
    rw [List.nil_append] at row31
    have k31 : Kept Nil w26 w31 := Kept.growNew (Kept.refl _ _) hg31 (fun k hk => by cases hk)
    refine ⟨A3, _, c3, w31, hr31, hcs k31, s.2.1, ?_⟩
    intro w32
    have k32 : Kept Nil w31 w32 := (Kept.refl _ _).alloc _
    have hx32 : HS w32 (some ⟨w31.heap.size, 0, none⟩) 1 [s] := hbox w31 s
    clear_value w32
    have s32 := k32.size
    have s31 := k31.size
    obtain ⟨A4, c4, w34, hr34, row34, hg34, hb34⟩ := append_hs (cx := 1) T_sl_api_Hash (Row.keep row31 k32 (fun _ _ h => h)) hx32 (by omega) (by omega)
    have k34 : Kept Nil w26 w34 := Kept.growNew (k31.trans k32 (fun _ _ h => h)) hg34 (fun k hk => (Row.blk row31 hk).1)
    exact ⟨A4, _, c4, w34, hr34, fin w34 A4 c4 k34 row34⟩
  · refine ⟨s.2.1, ?_⟩
    intro w37
    have k37 : Kept Nil w26 w37 := (Kept.refl _ _).alloc _
    have hx37 : HS w37 (some ⟨w26.heap.size, 0, none⟩) 1 [s] := hbox w26 s
    clear_value w37
    have s37 := k37.size
    refine ⟨by rw [add_at, cell_blk (k37.heap hw26 (fun h => h))]; rfl, ?_⟩
    obtain ⟨A3, c3, w39, hr39, row39, hg39, hb39⟩ := append_hs (cx := e0) T_sl_api_Hash (HRow.nil w37 w37.heap.size) (hsl26.same k37) (by omega) (Nat.le_refl _)
    rw [Nat.zero_add] at hr39 row39
    rw [List.nil_append] at row39
    have k39 : Kept Nil w37 w39 := Kept.growNew (Kept.refl _ _) hg39 (fun k hk => by cases hk)
    have s39 := k39.size
    obtain ⟨A4, c4, w41, hr41, row41, hg41, hb41⟩ := append_hs (cx := 1) T_sl_api_Hash row39 (hx37.same k39) (by omega) (by omega)
    have k41 : Kept Nil w37 w41 := Kept.growNew k39 hg41 (fun k hk => (Row.blk row39 hk).1)
    exact ⟨A3, _, c3, w39, hr39, A4, _, c4, w41, hr41, fin w41 A4 c4 (k37.trans k41 (fun _ _ h => h)) (Row.base row41 (fun k hk => by have := (Row.blk row41 hk).1; omega))⟩
end
end Go.Proofs.YtgfkpemnkmebkaaDoor
/-
  Steps of an index; few, all; both indexes side by side; begin.
-/
namespace Go.Proofs.YtgfkpemnkmebkaaDoor
open Go Go.Lite Go.RowKit

/-- a step: who, its selected parent, its parents -/
structure SN where
  id : HT
  sel : HT
  ps : List HT
/-- a slice of steps, to be read; F: where all that lies -/
structure Stp (w : World) (F : Nat → Prop) (A : Option Addr) (n : Nat) (l : List SN) : Prop where
  len : l.length = n
  at_ : ∀ (i : Nat) sn, l[i]? = some sn → ∃ a pA pn pc, A = some a ∧ F a.block ∧ Cells w (a.add (i * 65)) sn.id.1 ∧ Cells w ((a.add (i * 65)).add 32) sn.sel.1 ∧ w.cell? ((a.add (i * 65)).add 64) = some (.slice pA pn pc) ∧ HS w pA pn sn.ps ∧ ∀ b, pA = some b → F b.block
theorem Stp.keep {S F : Nat → Prop} {w w' : World} {A : Option Addr} {n : Nat} {l : List SN} (h : Stp w F A n l) (hk : Kept S w w') (hn : ∀ k, F k → ¬ S k) : Stp w' F A n l := ⟨h.len, fun i sn hi => by
  obtain ⟨a, pA, pn, pc, h1, h2, h3, h4, h5, h6, h7⟩ := h.at_ i sn hi
  exact ⟨a, pA, pn, pc, h1, h2, Cells.keep h3 hk (by rw [addr_block]; exact hn _ h2), Cells.keep h4 hk (by rw [addr_block, addr_block]; exact hn _ h2), hk.cell h5 (by rw [addr_block, addr_block]; exact hn _ h2), h6.keep hk (fun b hb => hn _ (h7 b hb)), h7⟩⟩
theorem Stp.same {F : Nat → Prop} {w w' : World} {A : Option Addr} {n : Nat} {l : List SN} (h : Stp w F A n l) (hk : Kept Nil w w') : Stp w' F A n l := h.keep hk (fun _ _ h => h)

def fewS (l : List SN) (most : Nat) : Prop := (∀ sn ∈ l, sn.ps.length ≤ 8) ∧ l.length ≤ most
section
variable {w w' v : World} {F FP FR S S2 F2 : Nat → Prop} {x r : Nat} {D D' : DG} {P P' : List Int} {K : Value → World → Prop}
theorem fewS_ok {A : Option Addr} {n c : Nat} {l : List SN} (hl : Stp w FP A n l) (hn : n < 9223372036854775808) (most : Nat) (hK : ∀ x : Bool, (x = true ↔ fewS l most) → K (.bool x) w) :
    Ret Tryd.prog law12_few.id #[.slice A n c, .int .i64 (most : Int)] w K := by
  have hlen := hl.len
  refine law12_few.of (law12_few.loop1 (I := fun s w' => w' = w ∧ ∃ i : Nat, s = (false, (i : Int)) ∧ i ≤ n ∧ ∀ nd ∈ l.take i, nd.ps.length ≤ 8) (μ := fun s _ => ((n : Int) - s.2).toNat) (s := (false, 0)) ⟨rfl, 0, rfl, Nat.zero_le _, by simp⟩ ?_)
  rintro s w' ⟨rfl, i, rfl, hi, hall⟩
  refine Split.dec (fun hil0 => ?_) (fun hge => ?_)
  · simp only at hil0
    have hil : i < n := by omega
    obtain ⟨nd, hnd⟩ : ∃ nd, l[i]? = some nd := ⟨_, List.getElem?_eq_getElem (by omega)⟩
    obtain ⟨a, pA, pn, pc, rfl, _, _, _, h5, hps, _⟩ := hl.at_ i nd hnd
    have hpl := hps.len
    refine ⟨⟨by omega, by omega⟩, pA, pn, pc, by rw [Int.toNat_natCast]; exact h5, ?_⟩
    refine Split.dec (fun hgt => ?_) (fun hle => ?_)
    · refine hK false ⟨(fun h => by cases h), fun h => ?_⟩
      have := h.1 nd (List.mem_of_getElem? hnd)
      omega
    · simp only
      rw [wrapI (x := (i : Int) + 1) (by omega) (by omega)]
      refine ⟨(false, (i : Int) + 1), rfl, ⟨rfl, i + 1, rfl, hil, fun md hm => ?_⟩, by simp only; omega⟩
      rw [List.take_add_one, hnd] at hm
      simp only [Option.toList_some, List.mem_append, List.mem_singleton] at hm
      rcases hm with hm | rfl
      · exact hall md hm
      · omega
  · simp only at hge
    rw [roundQ_exit, law12_few.x1_0]
    rw [List.take_of_length_le (by omega)] at hall
    refine hK _ ⟨fun h => ⟨hall, ?_⟩, fun h => decide_eq_true ?_⟩
    · have := of_decide_eq_true h; omega
    · have := h.2; omega

/-- the document's nodes, read through an index -/
theorem IsR2.go (H : IsR2 w F r D P) {k : Option Addr → Nat → Prop} (hk : ∀ A c, NS w F A D.length D → k A c) : ∃ A n c, w.cell? (((⟨r, 0, none⟩ : Addr).add 0).add 0) = some (.slice A n c) ∧ n = D.length ∧ k A c := by
  obtain ⟨A, c, B, e, l, h1, h2, _⟩ := H.ex
  exact ⟨A, D.length, c, by rw [add_zero, add_zero, cell_blk h1]; rfl, rfl, hk A c h2⟩
theorem all_ok (H : IsR2 w F r D P) (hD : D.length ≤ 10000) (other : HT) (hK : ∀ A c w', HRow w' w.heap.size A (D.length + 1) c (other :: ids D) → Kept Nil w w' → K (.slice A (D.length + 1) c) w') :
    Ret Tryd.prog law12_all.id #[.pointer (some ⟨r, 0, none⟩), .agg other.1] w K := by
  refine law12_all.of ?_
  unfold law12_all.W
  intro w3
  have k3 : Kept Nil w w3 := (Kept.refl _ _).alloc _
  have hb3 : w3.heap[w.heap.size]? = some (.cells other.1 T_api_Hash (0, 0)) := new_blk w _
  clear_value w3
  refine ⟨other.1, ⟨other.2.1, Cells.blk hb3⟩, other.2.1, ?_⟩
  intro w5
  have k5 : Kept Nil w3 w5 := (Kept.refl _ _).alloc _
  have hb5 : w5.heap[w3.heap.size]? = some (.cells (other.1.toList ++ []).toArray T_api_Hash (0, 0)) := new_blk w3 _
  clear_value w5
  have k05 := k3.trans k5 (fun _ _ h => h)
  have s3 := k3.size
  have row5 : HRow w5 w.heap.size (some ⟨w3.heap.size, 0, none⟩) 1 1 [other] := by
    have e : hcells [other] = (other.1.toList ++ []).toArray.toList := by simp [hcells]
    show Row _ _ _ _ _ _ _ (hcells [other])
    rw [e]
    exact Row.made hb5 (by omega) (by simp [other.2.1]) (by unfold maxLen; omega)
  refine law12_all.loop1 (I := fun s v => ∃ (i : Nat) (A : Option Addr) (c : Nat), s = (A, i + 1, c, (i : Int)) ∧ i ≤ D.length ∧ HRow v w.heap.size A (i + 1) c (other :: (ids D).take i) ∧ Kept Nil w v) (μ := fun s _ => ((D.length : Int) - s.2.2.2).toNat) (s := (some ⟨w3.heap.size, 0, none⟩, 1, 1, 0)) ⟨0, _, _, rfl, Nat.zero_le _, row5, k05⟩ ?_
  rintro s v ⟨i, A, c, rfl, hi, row, kv⟩
  obtain ⟨A0, n0, c0, hc0, rfl, hns⟩ := (H.same kv).go (k := fun A c => NS v F A D.length D) (fun _ _ h => h)
  refine Is.mk rfl ⟨A0, D.length, c0, hc0, Split.dec (fun hil0 => ?_) (fun hge => ?_)⟩
  · simp only at hil0
    have hil : i < D.length := by omega
    obtain ⟨nd, hnd⟩ : ∃ nd, D[i]? = some nd := ⟨_, List.getElem?_eq_getElem hil⟩
    refine Is.mk rfl ⟨A0, D.length, c0, hc0, ?_⟩
    refine hns.id (i := (i : Int)) (by omega) (by rw [Int.toNat_natCast]; exact hnd) ⟨nd.id.2.1, ?_⟩
    intro w16
    have k16 : Kept Nil v w16 := (Kept.refl _ _).alloc _
    have hx16 : HS w16 (some ⟨v.heap.size, 0, none⟩) 1 [nd.id] := hbox v nd.id
    clear_value w16
    have sv := kv.size
    have s16 := k16.size
    obtain ⟨A2, c2, w18, hr18, row18, hg18, _⟩ := append_hs (cx := 1) T_sl_api_Hash (Row.keep row k16 (fun _ _ h => h)) hx16 (by omega) (by omega)
    refine ⟨A2, _, c2, w18, hr18, ?_⟩
    simp only
    rw [wrapP (n := (i : Int)) (by omega) (by omega)]
    refine ⟨(A2, i + 1 + 1, c2, (i : Int) + 1), rfl, ⟨i + 1, A2, c2, rfl, hil, ?_, Kept.growNew (kv.trans k16 (fun _ _ h => h)) hg18 (fun k hk => (Row.blk row hk).1)⟩, by simp only; omega⟩
    have e : other :: (ids D).take (i + 1) = other :: (ids D).take i ++ [nd.id] := by rw [List.take_add_one, ids_get hnd]; rfl
    rw [e]
    exact row18
  · simp only at hge
    have : i = D.length := by omega
    subst this
    rw [roundQ_exit, law12_all.x1_0]
    rw [List.take_of_length_le (by rw [ids_len]; exact Nat.le_refl _)] at row
    exact hK A c v row kv

/-- Add of an index, whatever comes of it -/
theorem reach_AddI (h : IsX w S F x D P) (hD : D.length ≤ 5000) (hT : Tab w) (hTn : ¬ S (Tryd.tzL_ren.g 1)) {A : Option Addr} {n cx : Nat} {lp : List HT} (hl : HS w A n lp) (hn : n ≤ 5000) (hid s : HT)
    (hK : ∀ u S' F', IsX u S' F' x (addXD D hid s lp) (addXP D P hid s lp) → Kept S w u → (∀ k, S' k → S k ∨ w.heap.size ≤ k) → (∀ k, F' k → F k ∨ w.heap.size ≤ k) → K (.int .i64 (addXC D hid s lp)) u) :
    Ret Tryd.prog reach_Index_Add.id #[.pointer (some ⟨x, 0, none⟩), .agg hid.1, .agg s.1, .slice A n cx] w K := by
  obtain ⟨m, h1, h2⟩ := h
  refine reach_Add h1 hD hT (fun e => hTn (h2 _ (.inl e))) hl hn hid s (fun u k hc => ?_) (fun u S' F' hI k hS hF hc => ?_)
  · refine hK u S F ?_ (k.mono fun _ _ h => h.elim) (fun k h => .inl h) (fun k h => .inl h)
    unfold addXD addXP
    rw [if_neg hc, if_neg hc]
    exact ⟨m, h1.same k, h2⟩
  · have := hK u S' F' hI (k.mono fun k _ h => h2 k h) (fun k h => (hS k h).imp (h2 k) (fun h => h)) hF
    rw [hc] at this
    exact this

/-- the program's index and the document's, the same, apart in memory -/
structure BothX (w : World) (S F : Nat → Prop) (x : Nat) (FR : Nat → Prop) (r : Nat) (D : DG) (P : List Int) : Prop where
  X : IsX w S F x D P
  R : IsR2 w FR r D P
  rS : ¬ S r
  rF : ¬ F r
  fS : ∀ k, FR k → ¬ S k
  low : ∀ k, FR k → k < w.heap.size
theorem IsX.low (h : IsX w S F x D P) : ∃ S', IsX w S' F x D P ∧ ∀ k, S' k → S k ∧ k < w.heap.size :=
  let ⟨m, h1, h2⟩ := h; ⟨fun k => m.foot x k, ⟨m, h1, fun _ h => h⟩, fun k e => ⟨h2 k e, h1.low k (.inl e)⟩⟩
theorem BothX.keep {S0 : Nat → Prop} (B : BothX w S F x FR r D P) (k : Kept S0 w w') (hS : ∀ k, S k → ¬ S0 k) (hF : ∀ k, F k → ¬ S0 k) (hr : ¬ S0 r) (hR : ∀ k, FR k → ¬ S0 k) : BothX w' S F x FR r D P :=
  ⟨B.X.keep k hS hF, B.R.keep k hr hR, B.rS, B.rF, B.fS, fun k' h => Nat.lt_of_lt_of_le (B.low k' h) k.size⟩
theorem BothX.same (B : BothX w S F x FR r D P) (k : Kept Nil w w') : BothX w' S F x FR r D P := B.keep k (fun _ _ h => h) (fun _ _ h => h) (fun h => h) (fun _ _ h => h)
/-- behind the program's Add, and then the document's -/
theorem BothX.after (B : BothX w S F x FR r D P) (kv : Kept S w v) (hS2 : ∀ k, S2 k → S k ∨ w.heap.size ≤ k) (hF2 : ∀ k, F2 k → F k ∨ w.heap.size ≤ k) (hX2 : IsX v S2 F2 x D' P') :
    IsR2 v FR r D P ∧ ∀ u, IsR2 u (fun k => FR k ∨ (v.heap.size ≤ k ∧ k < u.heap.size)) r D' P' → Kept (· = r) v u → ∃ S3, (∀ k, S3 k → S2 k) ∧ BothX u S3 F2 x (fun k => FR k ∨ (v.heap.size ≤ k ∧ k < u.heap.size)) r D' P' := by
  have hr := B.R.lt
  have nS : ¬ S2 r := fun e => by
    rcases hS2 r e with h | h
    · exact B.rS h
    · omega
  have nF : ¬ F2 r := fun e => by
    rcases hF2 r e with h | h
    · exact B.rF h
    · omega
  refine ⟨B.R.keep kv B.rS B.fS, fun u hu ku => ?_⟩
  obtain ⟨S3, hX3, h3⟩ := hX2.low
  refine ⟨S3, fun k hk => (h3 k hk).1, hX3.keep ku (fun k hk e => nS (e ▸ (h3 k hk).1)) (fun k hk e => nF (e ▸ hk)), hu, fun e => nS (h3 _ e).1, nF, fun k hk hs => ?_, fun k hk => ?_⟩
  · obtain ⟨hs1, hs2⟩ := h3 k hs
    rcases hk with hk | ⟨hk, _⟩
    · rcases hS2 k hs1 with h | h
      · exact B.fS k hk h
      · have := B.low k hk; omega
    · omega
  · rcases hk with hk | hk
    · have := B.low k hk
      have := kv.size
      have := ku.size
      omega
    · exact hk.2

/-! what steps come to -/
structure DP where
  D : DG
  P : List Int
def stepX (a : DP) (s : SN) : DP := ⟨addXD a.D s.id s.sel s.ps, addXP a.D a.P s.id s.sel s.ps⟩
def buildX (root : HT) (l : List SN) : DP := l.foldl stepX ⟨[⟨root, []⟩], [-1]⟩
theorem addXD_len (D : DG) (h s : HT) (l : List HT) : (addXD D h s l).length ≤ D.length + 1 := by
  unfold addXD
  split
  · simp
  · omega
theorem stepX_len : ∀ (l : List SN) (a : DP), (l.foldl stepX a).D.length ≤ a.D.length + l.length
  | [], a => Nat.le_refl _
  | s :: l, a => by
    have h1 := stepX_len l (stepX a s)
    have h2 : (stepX a s).D.length ≤ a.D.length + 1 := addXD_len _ _ _ _
    rw [List.foldl_cons, List.length_cons]
    omega
theorem buildX_len (root : HT) (l : List SN) : (buildX root l).D.length ≤ 1 + l.length := by
  have := stepX_len l ⟨[⟨root, []⟩], [-1]⟩
  simpa [buildX] using this
theorem stepX_snoc {a : DP} {l : List SN} {i : Nat} {s : SN} (h : l[i]? = some s) : (l.take (i + 1)).foldl stepX a = stepX ((l.take i).foldl stepX a) s := by
  rw [List.take_add_one, h]
  simp

theorem hs_keep {S : Nat → Prop} {pA : Option Addr} {pn : Nat} {ps : List HT} (h : HS w pA pn ps) (k : Kept S w w') (hs : ps ≠ [] → ∀ a, pA = some a → ¬ S a.block) : HS w' pA pn ps := by
  by_cases h0 : ps = []
  · subst h0
    have := h.len
    simp at this
    subst this
    exact HS.nil _ _
  · exact h.keep k (hs h0)
theorem hs_lt {pA : Option Addr} {pn : Nat} {ps : List HT} (h : HS w pA pn ps) (h0 : ps ≠ []) : ∀ a, pA = some a → a.block < w.heap.size := fun a ha => by
  obtain ⟨y, hy⟩ : ∃ y, ps[0]? = some y := ⟨_, List.getElem?_eq_getElem (by
    rcases Nat.eq_zero_or_pos ps.length with e | e
    · exact absurd (List.length_eq_zero_iff.1 e) h0
    · exact e)⟩
  obtain ⟨a', ha', hlt, _⟩ := h.at_ 0 y hy
  rw [ha] at ha'
  cases ha'
  exact hlt
/-- Add in both, one behind the other -/
theorem both_add (B : BothX v S F x FR r D P) (hD : D.length ≤ 4000) (hT : Tab v) (hTS : ¬ S (Tryd.tzL_ren.g 1)) {pA : Option Addr} {pn cx : Nat} {ps : List HT} (hps : HS v pA pn ps) (hpn : pn ≤ 1000) (hpS : ps ≠ [] → ∀ a, pA = some a → ¬ S a.block) (hid s : HT)
    (hK : ∀ u, Kept S v u → (∀ (c' : Nat) (K' : Value → World → Prop), (∀ t S' F' FR', BothX t S' F' x FR' r (addXD D hid s ps) (addXP D P hid s ps) → Kept (fun k => S k ∨ k = r) v t → (∀ k, S' k → S k ∨ v.heap.size ≤ k) → (∀ k, F' k → F k ∨ v.heap.size ≤ k) → (∀ k, FR' k → FR k ∨ v.heap.size ≤ k) → K' (.int .i64 (addXC D hid s ps)) t) →
        Ret Tryd.prog ref12_Index_Add.id #[.pointer (some ⟨r, 0, none⟩), .agg hid.1, .agg s.1, .slice pA pn c'] u K') → K (.int .i64 (addXC D hid s ps)) u) :
    Ret Tryd.prog reach_Index_Add.id #[.pointer (some ⟨x, 0, none⟩), .agg hid.1, .agg s.1, .slice pA pn cx] v K := by
  refine reach_AddI B.X (by omega) hT hTS hps (by omega) hid s fun u S2 F2 hX2 ku hS2 hF2 => hK u ku ?_
  intro c' K' hK'
  obtain ⟨hR, haft⟩ := B.after ku hS2 hF2 hX2
  have su := ku.size
  refine ref12_Add hR (fun k hk => Nat.lt_of_lt_of_le (B.low k hk) su) (by omega) (hs_keep hps ku hpS) (by omega) fun t hRt kt => ?_
  obtain ⟨S3, h3, hB⟩ := haft t hRt kt
  exact hK' t S3 F2 _ hB ((ku.mono (S' := fun k => S k ∨ k = r) (fun _ _ h => .inl h)).trans kt (fun _ _ h => .inr h)) (fun k hk => hS2 k (h3 k hk)) hF2 (fun k hk => hk.imp (fun h => h) (fun h => by omega))

/-- the steps, at the beginning -/
def BIX (w : World) (root : HT) (l : List SN) (x r : Nat) : Option Addr × Option Addr × Bool × Int → World → Prop := fun s v => ∃ (i : Nat) (S F FR : Nat → Prop), s = (none, none, false, (i : Int)) ∧ i ≤ l.length ∧ BothX v S F x FR r (buildX root (l.take i)).D (buildX root (l.take i)).P ∧ Kept Nil w v ∧ (∀ k, S k → w.heap.size ≤ k) ∧ (∀ k, F k → w.heap.size ≤ k) ∧ (∀ k, FR k → w.heap.size ≤ k) ∧ w.heap.size ≤ r
theorem beginX_ok {A : Option Addr} {n c : Nat} {l : List SN} (hl : Stp w FP A n l) (hn : n ≤ 1000) (hps : ∀ sn ∈ l, sn.ps.length ≤ 8) (root : HT) (hT : Tab w)
    (hK : ∀ v S F x FR r, BothX v S F x FR r (buildX root l).D (buildX root l).P → Kept Nil w v → (∀ k, S k → w.heap.size ≤ k) → (∀ k, F k → w.heap.size ≤ k) → (∀ k, FR k → w.heap.size ≤ k) → w.heap.size ≤ r → K (.tuple #[.pointer (some ⟨x, 0, none⟩), .pointer (some ⟨r, 0, none⟩), .bool true]) v) :
    Ret Tryd.prog law12_begin.id #[.agg root.1, .slice A n c] w K := by
  have hlen := hl.len
  refine law12_begin.of ?_
  unfold law12_begin.W
  intro w3 w4
  have hb4 : w4.heap[w.heap.size]? = some (.cells root.1 T_api_Hash (0, 0)) := new_blk w _
  have k4 : Kept Nil w w4 := ((Kept.refl Nil w).alloc (.cells root.1 T_api_Hash)).drew
  clear_value w4
  have hs4 := k4.size
  refine ⟨root.1, ⟨root.2.1, Cells.blk hb4⟩, root.1, ⟨root.2.1, Cells.blk hb4⟩, ?_⟩
  refine reach_New_ok root fun w8 x hX8 k8 => ⟨_, rfl, ⟨root.1, rfl, root.2.1, Cells.blk (k8.heap hb4 (fun h => h))⟩, ?_⟩
  have s8 := k8.size
  refine ref12_New_ok root fun w11 r FR hR11 hFR hr11 k11 => ⟨_, rfl, ?_⟩
  have s11 := k11.size
  have k011 : Kept Nil w w11 := (k4.trans k8 (fun _ _ h => h)).trans k11 (fun _ _ h => h)
  obtain ⟨S0, hX0, hS0⟩ := hX8.low
  refine law12_begin.loop1 (I := BIX w root l x r) (μ := fun s _ => ((n : Int) - s.2.2.2).toNat) (s := (none, none, false, 0)) ⟨0, S0, fun _ => False, FR, rfl, Nat.zero_le _, ⟨hX0.keep k11 (fun _ _ h => h) (fun _ h => h.elim), hR11, fun e => by have := (hS0 _ e).2; omega, fun h => h, fun k e e' => by have := (hS0 _ e').2; have := (hFR k e).1; omega, fun k e => (hFR k e).2⟩, k011, fun k e => by have := (hS0 _ e).1.1; omega, fun k e => e.elim, fun k e => by have := (hFR k e).1; omega, by omega⟩ ?_
  rintro s v ⟨i, S, F, FR', rfl, hi, B, kv, nS, nF, nR, nr⟩
  unfold law12_begin.B1
  refine Split.dec (fun hil0 => ?_) (fun hge => ?_)
  · simp only at hil0
    have hil : i < n := by omega
    obtain ⟨sn, hsn⟩ : ∃ sn, l[i]? = some sn := ⟨_, List.getElem?_eq_getElem (by omega)⟩
    have hpl := hps sn (List.mem_of_getElem? hsn)
    intro w20
    have k20 : Kept Nil v w20 := (Kept.refl _ _).drew
    clear_value w20
    have kw20 := kv.trans k20 (fun _ _ h => h)
    have sw := kw20.size
    obtain ⟨a, pA, pn, pc, rfl, _, h3, h4, h5, hq, _⟩ := hl.at_ i sn hsn
    have hpn := hq.len
    have hb : 0 ≤ (i : Int) ∧ (i : Int) < (n : Int) := ⟨by omega, by omega⟩
    have c1 : ∀ {u : World}, Kept Nil w u → Cells u ((a.add ((i : Int).toNat * 65)).add 0) sn.id.1 := fun k => by
      rw [Int.toNat_natCast, add_zero]
      exact Cells.keep h3 k (fun h => h)
    have c2 : ∀ {u : World}, Kept Nil w u → Cells u ((a.add ((i : Int).toNat * 65)).add 32) sn.sel.1 := fun k => by
      rw [Int.toNat_natCast]
      exact Cells.keep h4 k (fun h => h)
    have c3 : ∀ {u : World}, Kept Nil w u → u.cell? ((a.add ((i : Int).toNat * 65)).add 64) = some (.slice pA pn pc) := fun k => by
      rw [Int.toNat_natCast]
      exact k.cell h5 (fun h => h)
    refine ⟨hb, Is.mk rfl ⟨sn.id.1, ⟨sn.id.2.1, c1 kw20⟩, hb, Is.mk rfl ⟨sn.sel.1, ⟨sn.sel.2.1, c2 kw20⟩, hb, Is.mk rfl ⟨pA, pn, pc, c3 kw20, hb, Is.mk rfl ⟨sn.id.1, ⟨sn.id.2.1, c1 kw20⟩, hb, Is.mk rfl ⟨sn.sel.1, ⟨sn.sel.2.1, c2 kw20⟩, hb, Is.mk rfl ⟨pA, pn, pc, c3 kw20, ?_⟩⟩⟩⟩⟩⟩⟩
    have hDl := buildX_len root (l.take i)
    rw [List.length_take] at hDl
    have hTlt := hT.lt
    refine both_add (B.same k20) (by omega) (hT.same kw20) (fun e => by have := nS _ e; omega) (hq.same kw20) (by omega) (fun h0 b hb e => by have := nS _ e; have := hs_lt hq h0 b hb; omega) sn.id sn.sel fun u ku h2 => ?_
    have kwu : Kept Nil w u := kw20.trans ku (fun k hk e => by have := nS k e; omega)
    refine ⟨_, rfl, c3 kwu, ⟨sn.sel.1, rfl, sn.sel.2.1, c2 kwu⟩, ⟨sn.id.1, rfl, sn.id.2.1, c1 kwu⟩, h2 _ _ fun t S' F' FR2 B' kt hS' hF' hR' => ⟨_, rfl, Split.no (by simp) ?_⟩⟩
    simp only
    rw [wrapP (n := (i : Int)) (by omega) (by omega)]
    have s20 := k20.size
    refine ⟨(none, none, false, (i : Int) + 1), rfl, ⟨i + 1, S', F', FR2, rfl, by omega, ?_, kw20.trans kt (fun k hk e => e.elim (fun e => by have := nS k e; omega) (fun e => by omega)), fun k hk => (hS' k hk).elim (nS k) (fun h => by omega), fun k hk => (hF' k hk).elim (nF k) (fun h => by omega), fun k hk => (hR' k hk).elim (nR k) (fun h => by omega), nr⟩, by simp only; omega⟩
    have e : buildX root (l.take (i + 1)) = stepX (buildX root (l.take i)) sn := stepX_snoc hsn
    rw [e]
    exact B'
  · simp only at hge
    have : i = l.length := by omega
    subst this
    rw [roundQ_exit, law12_begin.x1_0]
    rw [List.take_of_length_le (Nat.le_refl _)] at B
    exact hK v S F x FR' r B kv nS nF nR nr
end
end Go.Proofs.YtgfkpemnkmebkaaDoor
/-
  known: the chapter's rows.
-/
namespace Go.Proofs.YtgfkpemnkmebkaaDoor
open Go Go.Lite Go.RowKit
open Tr (Und)

/-- four boxes of hashes, written one behind the other -/
theorem four (w : World) (r a b c : HT) :
    let w1 := w.alloc (.cells hnull.1 T_api_Hash); let w2 := w1.alloc (.cells hnull.1 T_api_Hash); let w3 := w2.alloc (.cells hnull.1 T_api_Hash); let w4 := w3.alloc (.cells hnull.1 T_api_Hash)
    let w7 := setCells w4 (⟨w.heap.size, 0, none⟩ : Addr) r.1.toList 0; let w10 := setCells w7 (⟨w1.heap.size, 0, none⟩ : Addr) a.1.toList 0; let w13 := setCells w10 (⟨w2.heap.size, 0, none⟩ : Addr) b.1.toList 0; let w16 := setCells w13 (⟨w3.heap.size, 0, none⟩ : Addr) c.1.toList 0
    ((∀ j, j < 32 → Wr w4 ((⟨w.heap.size, 0, none⟩ : Addr).add j)) ∧ (∀ j, j < 32 → Wr w7 ((⟨w1.heap.size, 0, none⟩ : Addr).add j)) ∧ (∀ j, j < 32 → Wr w10 ((⟨w2.heap.size, 0, none⟩ : Addr).add j)) ∧ (∀ j, j < 32 → Wr w13 ((⟨w3.heap.size, 0, none⟩ : Addr).add j))) ∧
    w16.heap[w.heap.size]? = some (.cells r.1 T_api_Hash (0, 0)) ∧ w16.heap[w1.heap.size]? = some (.cells a.1 T_api_Hash (0, 0)) ∧ w16.heap[w2.heap.size]? = some (.cells b.1 T_api_Hash (0, 0)) ∧ w16.heap[w3.heap.size]? = some (.cells c.1 T_api_Hash (0, 0)) ∧
    w.heap.size < w1.heap.size ∧ w1.heap.size < w2.heap.size ∧ w2.heap.size < w3.heap.size ∧ w3.heap.size < w16.heap.size ∧ Kept Nil w w16 := by
  intro w1 w2 w3 w4
  have k1' : Kept Nil w w1 := (Kept.refl _ _).alloc _
  have k2' : Kept Nil w1 w2 := (Kept.refl _ _).alloc _
  have k3' : Kept Nil w2 w3 := (Kept.refl _ _).alloc _
  have k4' : Kept Nil w3 w4 := (Kept.refl _ _).alloc _
  have hr1 : w1.heap[w.heap.size]? = some (.cells hnull.1 T_api_Hash (0, 0)) := new_blk w _
  have ha2 : w2.heap[w1.heap.size]? = some (.cells hnull.1 T_api_Hash (0, 0)) := new_blk w1 _
  have hb3 : w3.heap[w2.heap.size]? = some (.cells hnull.1 T_api_Hash (0, 0)) := new_blk w2 _
  have hc4 : w4.heap[w3.heap.size]? = some (.cells hnull.1 T_api_Hash (0, 0)) := new_blk w3 _
  clear_value w4
  have hb4 := k4'.heap hb3 (fun h => h)
  have ha4 := k4'.heap (k3'.heap ha2 (fun h => h)) (fun h => h)
  have hr4 := k4'.heap (k3'.heap (k2'.heap hr1 (fun h => h)) (fun h => h)) (fun h => h)
  have l1 := lt_blk hr1
  have l2 := lt_blk ha2
  have l3 := lt_blk hb3
  have l4 := lt_blk hc4
  clear_value w3 w2 w1
  have kw4 : Kept Nil w w4 := ((k1'.trans k2' (fun _ _ h => h)).trans k3' (fun _ _ h => h)).trans k4' (fun _ _ h => h)
  have sz : ∀ h : HT, hnull.1.size = h.1.size := fun h => by rw [h.2.1]; rfl
  obtain ⟨wr7, hr7, k7⟩ := set_box hr4 (cs := r.1) (sz r)
  rw [r.2.1] at wr7
  intro w7
  replace hr7 : w7.heap[w.heap.size]? = some (.cells r.1 T_api_Hash (0, 0)) := hr7
  replace k7 : Kept (· = w.heap.size) w4 w7 := k7
  clear_value w7
  obtain ⟨wr10, ha10, k10⟩ := set_box (k7.heap ha4 (by omega)) (cs := a.1) (sz a)
  rw [a.2.1] at wr10
  intro w10
  replace ha10 : w10.heap[w1.heap.size]? = some (.cells a.1 T_api_Hash (0, 0)) := ha10
  replace k10 : Kept (· = w1.heap.size) w7 w10 := k10
  clear_value w10
  obtain ⟨wr13, hb13, k13⟩ := set_box (k10.heap (k7.heap hb4 (by omega)) (by omega)) (cs := b.1) (sz b)
  rw [b.2.1] at wr13
  intro w13
  replace hb13 : w13.heap[w2.heap.size]? = some (.cells b.1 T_api_Hash (0, 0)) := hb13
  replace k13 : Kept (· = w2.heap.size) w10 w13 := k13
  clear_value w13
  obtain ⟨wr16, hc16, k16⟩ := set_box (k13.heap (k10.heap (k7.heap hc4 (by omega)) (by omega)) (by omega)) (cs := c.1) (sz c)
  rw [c.2.1] at wr16
  intro w16
  replace hc16 : w16.heap[w3.heap.size]? = some (.cells c.1 T_api_Hash (0, 0)) := hc16
  replace k16 : Kept (· = w3.heap.size) w13 w16 := k16
  clear_value w16
  have s16 := lt_blk hc16
  exact ⟨⟨wr7, wr10, wr13, wr16⟩, k16.heap (k13.heap (k10.heap hr7 (by omega)) (by omega)) (by omega), k16.heap (k13.heap ha10 (by omega)) (by omega), k16.heap hb13 (by omega), hc16, by omega, by omega, by omega, s16,
    (((kw4.trans k7 (fun k hk e => by omega)).trans k10 (fun k hk e => by omega)).trans k13 (fun k hk e => by omega)).trans k16 (fun k hk e => by omega)⟩

section
variable {r a b c : HT} (hra : r ≠ a) (hrb : r ≠ b) (hrc : r ≠ c) (hab : a ≠ b) (hac : a ≠ c) (hbc : b ≠ c)
theorem addX_yes {D : DG} {P : List Int} {h s : HT} {l : List HT} (hc : addC D h l = 0) (hs : s ∈ l) {j : Nat} (hj : pos s (ids D) 0 = some j) : addXC D h s l = 0 ∧ addXD D h s l = addD D h l ∧ addXP D P h s l = P ++ [(j : Int)] := by
  have e : addXC D h s l = 0 := by unfold addXC; rw [if_pos hc, if_pos hs]
  refine ⟨e, ?_, ?_⟩
  · unfold addXD addD
    rw [if_pos e, if_pos hc]
  · unfold addXP
    rw [if_pos e, hj]
    rfl
abbrev kP : List Int := [-1, 0, 0, 1]
theorem kSel : Sel (kD r a b c) kP where
  len := rfl
  root := rfl
  up := fun i p nd hi hp hnd => by
    match i, hi with
    | 1, _ => simp at hp hnd; subst hp hnd; exact ⟨0, _, rfl, by omega, rfl, by simp⟩
    | 2, _ => simp at hp hnd; subst hp hnd; exact ⟨0, _, rfl, by omega, rfl, by simp⟩
    | 3, _ => simp at hp hnd; subst hp hnd; exact ⟨1, _, rfl, by omega, rfl, mem_srt.2 (by simp)⟩
    | n + 4, _ => simp at hp
include hra hrb hrc hab hac hbc in
theorem kCh : Ch (kD r a b c) kP a c ∧ ¬ Ch (kD r a b c) kP b c ∧ coverL (kD r a b c) kP b = [c] := by
  have W := kW hra hrb hrc hab hac hbc
  have H := kSel (r := r) (a := a) (b := b) (c := c)
  obtain ⟨h1, h2, h3, h4⟩ := kAnc hra hrb hrc hab hac hbc
  have sc : SelOf (kD r a b c) kP a c := ⟨3, 1, _, _, rfl, rfl, rfl, rfl, rfl⟩
  have sa : SelOf (kD r a b c) kP r a := ⟨1, 0, _, _, rfl, rfl, rfl, rfl, rfl⟩
  refine ⟨⟨3, 1, _, _, rfl, rfl, rfl, rfl, .step rfl (.refl (by decide))⟩, fun h => ?_, ?_⟩
  · rcases h.inv W H with e | ⟨s, g1, g2⟩
    · exact hbc e
    · rw [SelOf.one W g1 sc] at g2
      rcases g2.inv W H with e | ⟨s, g3, g4⟩
      · exact hab e.symm
      · rw [SelOf.one W g3 sa] at g4
        rcases g4.inv W H with e | ⟨s, g5, _⟩
        · exact hrb e.symm
        · exact h1 s (.one (g5.par H))
  · refine SS_ext (SS_srt _) (by simp [SS]) fun x => ?_
    show x ∈ coverL _ _ b ↔ _
    unfold coverL
    rw [mem_pick, List.mem_singleton]
    constructor
    · rintro ⟨hx, hA, _⟩
      simp [ids] at hx
      rcases hx with rfl | rfl | rfl | rfl
      · exact absurd hA (h1 _)
      · exact absurd ((h2 b).1 hA).symm hrb
      · exact absurd hA (Anc.irrefl W _)
      · rfl
    · rintro rfl
      exact ⟨by simp [ids], (h4 b).2 (.inr (.inl rfl)), a, sc, fun e => hab e.symm, fun e => hrb ((h2 b).1 e).symm⟩
end

section
variable {w w' : World} {K : Value → World → Prop}
theorem knownX_ok (hT : Tab w) (hK : ∀ w', Kept Nil w w' → K (.bool true) w') : Ret Tryd.prog law12_known.id #[] w K := by
  let r := hx 1 (by omega)
  let a := hx 2 (by omega)
  let b := hx 3 (by omega)
  let c := hx 4 (by omega)
  have hra : r ≠ a := hx_inj (by omega)
  have hrb : r ≠ b := hx_inj (by omega)
  have hrc : r ≠ c := hx_inj (by omega)
  have hab : a ≠ b := hx_inj (by omega)
  have hac : a ≠ c := hx_inj (by omega)
  have hbc : b ≠ c := hx_inj (by omega)
  refine law12_known.of ?_
  unfold law12_known.W
  intro w1 w2 w3 w4
  obtain ⟨⟨f1, f2, f3, f4⟩, hr, ha, hb, hc, l1, l2, l3, l4, k⟩ := four w r a b c
  refine ⟨⟨r.2.1, r.2.one, f1⟩, ?_⟩
  intro w7
  refine ⟨⟨a.2.1, a.2.one, f2⟩, ?_⟩
  intro w10
  refine ⟨⟨b.2.1, b.2.one, f3⟩, ?_⟩
  intro w13
  refine ⟨⟨c.2.1, c.2.one, f4⟩, ?_⟩
  intro w16
  replace hr : w16.heap[w.heap.size]? = some (.cells r.1 T_api_Hash (0, 0)) := hr
  replace ha : w16.heap[w1.heap.size]? = some (.cells a.1 T_api_Hash (0, 0)) := ha
  replace hb : w16.heap[w2.heap.size]? = some (.cells b.1 T_api_Hash (0, 0)) := hb
  replace hc : w16.heap[w3.heap.size]? = some (.cells c.1 T_api_Hash (0, 0)) := hc
  replace k : Kept Nil w w16 := k
  replace l1 : w.heap.size < w1.heap.size := l1
  replace l2 : w1.heap.size < w2.heap.size := l2
  replace l3 : w2.heap.size < w3.heap.size := l3
  replace l4 : w3.heap.size < w16.heap.size := l4
  clear f1 f2 f3 f4
  clear_value w16
  clear w13 w10 w7
  clear_value w3
  clear w4
  clear_value w2
  clear_value w1
  have hTl := hT.lt
  have s16 := k.size
  -- what stands when only blocks behind w16 are written
  have box : ∀ {u : World} {S : Nat → Prop}, Kept S w16 u → (∀ k, S k → w16.heap.size ≤ k) → Cells u (⟨w.heap.size, 0, none⟩ : Addr) r.1 ∧ Cells u (⟨w1.heap.size, 0, none⟩ : Addr) a.1 ∧ Cells u (⟨w2.heap.size, 0, none⟩ : Addr) b.1 ∧ Cells u (⟨w3.heap.size, 0, none⟩ : Addr) c.1 := fun ku hS =>
    ⟨Cells.blk (ku.heap hr (fun e => by have := hS _ e; omega)), Cells.blk (ku.heap ha (fun e => by have := hS _ e; omega)), Cells.blk (ku.heap hb (fun e => by have := hS _ e; omega)), Cells.blk (ku.heap hc (fun e => by have := hS _ e; omega))⟩
  refine ⟨r.1, ⟨r.2.1, Cells.blk hr⟩, reach_New_ok r fun w19 x hX19 k19 => ⟨_, rfl, ?_⟩⟩
  obtain ⟨c1, c2, c3, c4⟩ := box k19 (fun _ h => h.elim)
  refine ⟨a.1, ⟨a.2.1, c2⟩, r.1, ⟨r.2.1, c1⟩, r.1, ⟨r.2.1, c1⟩, r.2.1, ?_⟩
  intro w24
  have k24 : Kept Nil w19 w24 := (Kept.refl _ _).alloc _
  have hb24 : HS w24 (some ⟨w19.heap.size, 0, none⟩) 1 [r] := hbox w19 r
  clear_value w24
  have k024 := k19.trans k24 (fun _ _ h => h)
  obtain ⟨e1, e2, e3⟩ := addX_yes (D := [⟨r, []⟩]) (P := [-1]) (h := a) (s := r) (l := [r]) (k1 hra).1 (by simp) (j := 0) (by simp [ids, pos])
  rw [(k1 hra).2] at e2
  refine reach_AddI (hX19.same k24) (by simp) (hT.same (k.trans k024 (fun _ _ h => h))) (fun e => by have := e.1; omega) hb24 (by omega) a r fun w26 S2 F2 hX26 k26 hS2 hF2 => ⟨_, rfl, ?_⟩
  rw [e1]
  rw [e2, e3] at hX26
  replace hX26 : IsX w26 S2 F2 x [⟨r, []⟩, ⟨a, [r]⟩] [-1, 0] := hX26
  refine Split.no rfl ?_
  have s24 := k024.size
  have m2 : ∀ q, S2 q → w16.heap.size ≤ q := fun q h => (hS2 q h).elim (fun h => h.1) (fun h => by omega)
  have k1626 : Kept (fun q => w16.heap.size ≤ q) w16 w26 := (k024.mono (S' := fun q => w16.heap.size ≤ q) (fun _ _ h => h.elim)).trans k26 (fun q _ h => h.1)
  obtain ⟨c1, c2, c3, c4⟩ := box k1626 (fun _ h => h)
  refine ⟨b.1, ⟨b.2.1, c3⟩, r.1, ⟨r.2.1, c1⟩, r.1, ⟨r.2.1, c1⟩, r.2.1, ?_⟩
  intro w31
  have k31 : Kept Nil w26 w31 := (Kept.refl _ _).alloc _
  have hb31 : HS w31 (some ⟨w26.heap.size, 0, none⟩) 1 [r] := hbox w26 r
  clear_value w31
  have k1631 := k1626.trans k31 (fun _ _ h => h.elim)
  obtain ⟨e1, e2, e3⟩ := addX_yes (D := [⟨r, []⟩, ⟨a, [r]⟩]) (P := [-1, 0]) (h := b) (s := r) (l := [r]) (k2 hrb hab).1 (by simp) (j := 0) (by simp [ids, pos])
  rw [(k2 hrb hab).2] at e2
  refine reach_AddI (hX26.same k31) (by simp) ((hT.same k).keep k1631 (fun e => by omega)) (fun e => by have := m2 _ e; omega) hb31 (by omega) b r fun w33 S3 F3 hX33 k33 hS3 hF3 => ⟨_, rfl, ?_⟩
  rw [e1]
  rw [e2, e3] at hX33
  replace hX33 : IsX w33 S3 F3 x [⟨r, []⟩, ⟨a, [r]⟩, ⟨b, [r]⟩] [-1, 0, 0] := hX33
  refine Split.no rfl ?_
  have s31 := k1631.size
  have m3 : ∀ q, S3 q → w16.heap.size ≤ q := fun q h => (hS3 q h).elim (m2 q) (fun h => by omega)
  have k1633 : Kept (fun q => w16.heap.size ≤ q) w16 w33 := k1631.trans k33 (fun q _ h => m2 q h)
  obtain ⟨c1, c2, c3, c4⟩ := box k1633 (fun _ h => h)
  refine ⟨c.1, ⟨c.2.1, c4⟩, a.1, ⟨a.2.1, c2⟩, a.1, ⟨a.2.1, c2⟩, b.1, ⟨b.2.1, c3⟩, a.2.1, b.2.1, ?_⟩
  intro w39
  have k39 : Kept Nil w33 w39 := (Kept.refl _ _).alloc _
  have hb39 : HS w39 (some ⟨w33.heap.size, 0, none⟩) 2 [a, b] := HS.lay (l := [a, b]) (t := T_api_Hash) (new_blk w33 (.cells (hcells [a, b]).toArray T_api_Hash))
  clear_value w39
  have k1639 := k1633.trans k39 (fun _ _ h => h.elim)
  obtain ⟨e1, e2, e3⟩ := addX_yes (D := [⟨r, []⟩, ⟨a, [r]⟩, ⟨b, [r]⟩]) (P := [-1, 0, 0]) (h := c) (s := a) (l := [a, b]) (k3 hrc hab hac hbc).1 (by simp) (j := 1) (by simp [ids, pos]; exact fun e => absurd e.symm hra)
  rw [(k3 hrc hab hac hbc).2] at e2
  refine reach_AddI (hX33.same k39) (by simp) ((hT.same k).keep k1639 (fun e => by omega)) (fun e => by have := m3 _ e; omega) hb39 (by omega) c a fun w41 S4 F4 hX41 k41 hS4 hF4 => ⟨_, rfl, ?_⟩
  rw [e1]
  rw [e2, e3] at hX41
  replace hX41 : IsX w41 S4 F4 x (kD r a b c) kP := hX41
  refine Split.no rfl ?_
  have k1641 : Kept (fun q => w16.heap.size ≤ q) w16 w41 := k1639.trans k41 (fun q _ h => m3 q h)
  obtain ⟨q1, q2, q3⟩ := kCh hra hrb hrc hab hac hbc
  obtain ⟨_, _, _, hA4⟩ := kAnc hra hrb hrc hab hac hbc
  have kw41 : Kept Nil w w41 := k.trans k1641 (fun q hq e => by omega)
  have hX : ∀ {v : World}, Kept Nil w41 v → IsX v S4 F4 x (kD r a b c) kP := fun k => hX41.same k
  obtain ⟨c1, c2, c3, c4⟩ := box k1641 (fun _ h => h)
  obtain ⟨m, hV, _⟩ := hX (Kept.refl _ _)
  refine ⟨b.1, ⟨b.2.1, c3⟩, reach_Cover hV (by simp) b (fun w' hn _ => absurd (by simp [ids]) hn) fun A45 c45 w45 _ row45 k45 => ⟨A45, _, c45, 0, rfl, ?_⟩⟩
  rw [q3] at row45 ⊢
  intro w48
  have k48 : Kept Nil w45 w48 := (Kept.refl _ _).drew
  have row48 : HRow w48 w41.heap.size A45 1 c45 [c] := Row.keep row45 k48 (fun _ _ h => h)
  clear_value w48
  have k4148 := k45.trans k48 (fun _ _ h => h)
  have bx : ∀ {u : World}, Kept Nil w41 u → Cells u (⟨w1.heap.size, 0, none⟩ : Addr) a.1 ∧ Cells u (⟨w2.heap.size, 0, none⟩ : Addr) b.1 ∧ Cells u (⟨w3.heap.size, 0, none⟩ : Addr) c.1 := fun k => (box (k1641.trans k (fun _ _ h => h.elim)) (fun _ h => h)).2
  refine Split.yes rfl (Split.yes rfl (row48.hs.load (i := 0) (by omega) rfl ⟨c.1, ⟨c.2.1, (bx k4148).2.2⟩, ⟨c.2.ints, c.2.ints⟩, ?_⟩))
  rw [sameInts_eq]
  refine Split.yes (decide_eq_true rfl) ⟨b.1, ⟨b.2.1, (bx k4148).2.1⟩, c.1, ⟨c.2.1, (bx k4148).2.2⟩, reach_Before (hV.same k4148) (by simp) b c fun w55 t ht k55 => ⟨t, rfl, ?_⟩⟩
  have k4155 := k4148.trans k55 (fun _ _ h => h)
  refine Split.yes (ht.2 ((hA4 b).2 (.inr (.inl rfl)))) ⟨b.1, ⟨b.2.1, (bx k4155).2.1⟩, c.1, ⟨c.2.1, (bx k4155).2.2⟩, reach_Chain (hV.same k4155) b c fun w60 t2 ht2 k60 => ⟨t2, rfl, ?_⟩⟩
  have k4160 := k4155.trans k60 (fun _ _ h => h)
  have e2 : t2 = false := by
    cases t2 with
    | false => rfl
    | true => exact absurd (ht2.1 rfl) q2
  subst e2
  refine Split.yes rfl ⟨a.1, ⟨a.2.1, (bx k4160).1⟩, c.1, ⟨c.2.1, (bx k4160).2.2⟩, reach_Chain (hV.same k4160) a c fun w65 t3 ht3 k65 => ⟨t3, rfl, ?_⟩⟩
  rw [ht3.2 q1]
  exact hK w65 (kw41.trans (k4160.trans k65 (fun _ _ h => h)) (fun _ _ h => h))
end
end Go.Proofs.YtgfkpemnkmebkaaDoor
/-
  same: both indexes say the same of who stands ahead of whom, on whose chain.
-/
namespace Go.Proofs.YtgfkpemnkmebkaaDoor
open Go Go.Lite Go.RowKit

section
variable {w w' : World} {S F FR : Nat → Prop} {x r : Nat} {D : DG} {P : List Int} {m : XM} {K : Value → World → Prop}
theorem reach_Graph_ok (h : XV w F x D P m) (hK : K (.pointer (some ⟨m.g, 0, none⟩)) w) : Ret Tryd.prog reach_Index_Graph.id #[.pointer (some ⟨x, 0, none⟩)] w K :=
  reach_Index_Graph.of (Split.no rfl (Is.mk rfl ⟨_, h.c0, hK⟩))
theorem ChainL.len {h : HT} {l : List HT} (hc : ChainL D P h l) (H : Sel D P) : l.length ≤ D.length := by
  rcases hc with ⟨_, rfl⟩ | ⟨i, nd, ks, h1, _, h3, rfl⟩
  · exact Nat.zero_le _
  · have := h3.len H.par
    have := (List.getElem?_eq_some_iff.1 h1).1
    simp only [List.length_map]
    omega
theorem mem_past1 (W : WfD D) {a h : HT} : a ∈ pastsL D [h] ↔ Anc D a h := by
  unfold pastsL
  rw [mem_pick]
  constructor
  · rintro ⟨_, z, hz, e⟩
    rw [List.mem_singleton] at hz
    rwa [hz] at e
  · exact fun e => ⟨(e.mem W).1, h, by simp, e⟩
theorem sameX_ok (B : BothX w S F x FR r D P) (hD : D.length ≤ 2000) (other : HT) (hK : ∀ w', Kept Nil w w' → K (.bool true) w') :
    Ret Tryd.prog law12_same.id #[.pointer (some ⟨x, 0, none⟩), .pointer (some ⟨r, 0, none⟩), .agg other.1] w K := by
  obtain ⟨m, hV, _⟩ := B.X
  have W := hV.W
  have H := hV.sel
  have hX : ∀ {v : World}, Kept Nil w v → XV v F x D P m := fun k => hV.same k
  have hR : ∀ {v : World}, Kept Nil w v → IsR2 v FR r D P := fun k => B.R.same k
  refine law12_same.of ?_
  unfold law12_same.W
  intro w4 w5
  have k4 : Kept Nil w w4 := (Kept.refl _ _).alloc _
  have ho4 : w4.heap[w.heap.size]? = some (.cells other.1 T_api_Hash (0, 0)) := new_blk w _
  have k5 : Kept Nil w4 w5 := (Kept.refl _ _).alloc _
  have hr5 : w5.heap[w4.heap.size]? = some (.cells #[.bool false] T_bool (0, 0)) := new_blk w4 _
  clear_value w5
  have ho5 := k5.heap ho4 (fun h => h)
  have k05 := k4.trans k5 (fun _ _ h => h)
  have s4 := k4.size
  have l5 := lt_blk hr5
  clear_value w4
  refine ⟨other.1, ⟨other.2.1, Cells.blk ho5⟩, all_ok (hR k05) (by omega) other fun A8 c8 w8 row8 k8 => ⟨A8, _, c8, rfl, ?_⟩⟩
  have k08 := k05.trans k8 (fun _ _ h => h)
  have hr8 := k8.heap hr5 (fun h => h)
  have s8 := k8.size
  have hL : ∀ {v : World}, Kept Nil w8 v → HS v A8 (D.length + 1) (other :: ids D) := fun k => (HRow.hs row8).same k
  generalize hal : other :: ids D = al at row8 hL
  have hall : al.length = D.length + 1 := by rw [← hal, List.length_cons, ids_len]
  refine Holds.mark0 rfl ?_
  refine law12_same.loop1 (I := fun s v => ∃ (i : Nat) (Ms : List Nat), s = ((i : Int), marksA Ms) ∧ i ≤ D.length + 1 ∧ Kept Nil w8 v ∧ Ms.Nodup ∧ ∀ E ∈ Ms, w8.heap.size ≤ E ∧ v.heap[E]? = some (.deferred (some []))) (μ := fun s _ => (((D.length + 1 : Nat) : Int) - s.1).toNat) (s := (0, #[])) ⟨0, [], rfl, by omega, Kept.refl _ _, List.Pairwise.nil, by simp⟩ ?_
  rintro s v ⟨i, Ms, rfl, hi, kv, hnd, hMs⟩
  have k0v : Kept Nil w v := k08.trans kv (fun _ _ h => h)
  have sv := kv.size
  refine Split.dec (fun hil0 => ?_) (fun hge => ?_)
  · simp only at hil0
    have hil : i < D.length + 1 := by omega
    obtain ⟨h, hh⟩ : ∃ h, al[i]? = some h := ⟨_, List.getElem?_eq_getElem (by omega)⟩
    have hh' : al[((i : Nat) : Int).toNat]? = some h := by rw [Int.toNat_natCast]; exact hh
    intro w16
    have k16 : Kept Nil v w16 := (Kept.refl _ _).drew
    clear_value w16
    have kv16 := kv.trans k16 (fun _ _ h => h)
    refine Is.mk rfl ((hL kv16).load (i := (i : Int)) (by omega) hh' ⟨h.2.1, ?_⟩)
    intro w20
    have k20 : Kept Nil w16 w20 := (Kept.refl _ _).alloc _
    have hx20 : HS w20 (some ⟨w16.heap.size, 0, none⟩) 1 [h] := hbox w16 h
    clear_value w20
    have kv20 := kv16.trans k20 (fun _ _ h => h)
    rw [add_zero]
    refine ref_Past (hR (k08.trans kv20 (fun _ _ h => h))).gr W (by omega) hx20 (by omega) fun A22 c22 w22 row22 k22 => ⟨A22, _, c22, rfl, ?_⟩
    have kv22 := kv20.trans k22 (fun _ _ h => h)
    refine (hL kv22).load (i := (i : Int)) (by omega) hh' ?_
    refine ref12_Up (hR (k08.trans kv22 (fun _ _ h => h))) (by omega) h fun A27 c27 w27 up hup row27 k27 => ⟨A27, _, c27, rfl, ?_⟩
    have kv27 := kv22.trans k27 (fun _ _ h => h)
    have hupl := hup.len H
    have p1 := pick_len D fun a => ∃ z ∈ [h], Anc D a z
    change (pastsL D [h]).length ≤ _ at p1
    intro w29
    have hb29 : w29.heap[w27.heap.size]? = some (.cells #[.slice none 0 0] T_sl_api_Hash (0, 0)) := new_blk w27 _
    have k29 : Kept Nil w27 w29 := (Kept.refl _ _).alloc _
    clear_value w29
    refine ⟨wr_blk hb29 (by simp), ?_⟩
    intro w30
    have k30' : Kept (· = w27.heap.size) w29 w30 := Kept.setCell (S := fun k => k = w27.heap.size) (Kept.refl _ w29) (p := ⟨w27.heap.size, 0, none⟩) (fun _ => rfl) _
    have hb30 : w30.heap[w27.heap.size]? = some (.cells #[.slice A27 up.length c27] T_sl_api_Hash (0, 0)) := set_blk hb29 0 _
    clear_value w30
    have k30 : Kept Nil w27 w30 := k29.trans k30' (fun k hk e => by omega)
    have kv30 := kv27.trans k30 (fun _ _ h => h)
    have k2230 := k27.trans k30 (fun _ _ h => h)
    have hup30 : ∀ {u : World}, Kept Nil w30 u → HS u A27 up.length up := fun k => ((HRow.hs row27).same k30).same k
    have hps30 : ∀ {u : World}, Kept Nil w30 u → HS u A22 (pastsL D [h]).length (pastsL D [h]) := fun k => ((HRow.hs row22).same k2230).same k
    have s27 := k27.size
    have s30 := kv30.size
    have hbu : ∀ {u : World}, Kept Nil w30 u → u.cell? ⟨w27.heap.size, 0, none⟩ = some (.slice A27 up.length c27) := fun k => by rw [cell_blk (k.heap hb30 (fun h => h))]; rfl
    -- one by one
    refine law12_same.loop2 (I := fun s u => ∃ k : Nat, s = (k : Int) ∧ k ≤ D.length + 1 ∧ Kept Nil w30 u) (μ := fun s _ => (((D.length + 1 : Nat) : Int) - s).toNat) (s := 0) ⟨0, rfl, by omega, Kept.refl _ _⟩ ?_
    rintro s u ⟨k, rfl, hk, ku⟩
    have kvu := kv30.trans ku (fun _ _ h => h)
    have k0u := k08.trans kvu (fun _ _ h => h)
    refine Split.dec (fun hkl0 => ?_) (fun hgek => ?_)
    · have hkl : k < D.length + 1 := by omega
      obtain ⟨y, hy⟩ : ∃ y, al[k]? = some y := ⟨_, List.getElem?_eq_getElem (by omega)⟩
      have hy' : al[((k : Nat) : Int).toNat]? = some y := by rw [Int.toNat_natCast]; exact hy
      intro w62
      have k62 : Kept Nil u w62 := (Kept.refl _ _).drew
      clear_value w62
      have kv62 := kvu.trans k62 (fun _ _ h => h)
      have ku62 := ku.trans k62 (fun _ _ h => h)
      obtain ⟨a, rfl, _, hca⟩ := (hL kv62).at_ k y hy
      refine (hL kv62).load (i := (k : Int)) (by omega) hy' ((hL kv62).load (i := (i : Int)) (by omega) hh' ?_)
      refine ⟨⟨by omega, by omega⟩, Is.mk rfl ⟨y.1, ⟨y.2.1, by rw [Int.toNat_natCast]; exact hca⟩, ?_⟩⟩
      refine reach_Before (hX (k08.trans kv62 (fun _ _ h => h))) (by omega) y h fun w70 b1 hb1 k70 => ⟨b1, rfl, ⟨y.1, rfl, y.2.1, by rw [Int.toNat_natCast]; exact Cells.keep hca k70 (fun h => h)⟩, ?_⟩
      have ku70 := ku62.trans k70 (fun _ _ h => h)
      refine ref_In y (hps30 ku70) (by omega) fun w73 k73 => ⟨_, rfl, ?_⟩
      have ku73 := ku70.trans k73 (fun _ _ h => h)
      have kv73 := kv30.trans ku73 (fun _ _ h => h)
      have e1 : b1 = decide (y ∈ pastsL D [h]) := by rw [Bool.eq_iff_iff, decide_eq_true_iff, hb1, mem_past1 W]
      refine Split.no (by rw [← e1]; simp) ?_
      refine (hL kv73).load (i := (k : Int)) (by omega) hy' ((hL kv73).load (i := (i : Int)) (by omega) hh' ?_)
      refine ⟨A27, up.length, c27, hbu ku73, ⟨by omega, by omega⟩, Is.mk rfl ⟨y.1, ⟨y.2.1, by rw [Int.toNat_natCast]; exact Cells.keep hca (k70.trans k73 (fun _ _ h => h)) (fun h => h)⟩, ?_⟩⟩
      refine reach_Chain (hX (k08.trans kv73 (fun _ _ h => h))) y h fun w84 b2 hb2 k84 => ⟨b2, rfl, ⟨y.1, rfl, y.2.1, by rw [Int.toNat_natCast]; exact Cells.keep hca ((k70.trans k73 (fun _ _ h => h)).trans k84 (fun _ _ h => h)) (fun h => h)⟩, hbu (ku73.trans k84 (fun _ _ h => h)), ?_⟩
      have ku84 := ku73.trans k84 (fun _ _ h => h)
      refine ref_In y (hup30 ku84) (by omega) fun w87 k87 => ⟨_, rfl, ?_⟩
      have e2 : b2 = decide (y ∈ up) := by rw [Bool.eq_iff_iff, decide_eq_true_iff, hb2, hup.mem W H]
      refine Split.no (by rw [← e2]; simp) ?_
      rw [wrapP (n := (k : Int)) (by omega) (by omega)]
      exact ⟨(k : Int) + 1, rfl, ⟨k + 1, rfl, hkl, ku84.trans k87 (fun _ _ h => h)⟩, by simp only; omega⟩
    · rw [roundQ_exit]
      rw [law12_same.x2_2]
      unfold law12_same.X2_2
      refine (hL kvu).load (i := (i : Int)) (by omega) hh' ?_
      refine reach_Up_ok h fun w102 pb qb k102 hp102 hq102 hpb hqb => ⟨_, rfl, .inr ⟨_, _, _, rfl⟩, Split.no rfl ?_⟩
      have kv102 := kvu.trans k102 (fun _ _ h => h)
      have ku102 := ku.trans k102 (fun _ _ h => h)
      intro w105
      have hi105 : w105.heap[w102.heap.size]? = some (.cells #[.int .i64 0] T_int (0, 0)) := new_blk w102 _
      have k105 : Kept Nil w102 w105 := (Kept.refl _ _).alloc _
      clear_value w105
      refine ⟨wr_blk hi105 (by simp), ?_⟩
      intro w106
      have k106' : Kept (· = w102.heap.size) w105 w106 := Kept.setCell (S := fun k => k = w102.heap.size) (Kept.refl _ w105) (p := ⟨w102.heap.size, 0, none⟩) (fun _ => rfl) _
      have hi106 : w106.heap[w102.heap.size]? = some (.cells #[.int .i64 0] T_int (0, 0)) := set_blk hi105 0 _
      clear_value w106
      have k106 : Kept Nil w102 w106 := k105.trans k106' (fun k hk e => by omega)
      have hp106 := k106.heap hp102 (fun h => h)
      have hq106 := k106.heap hq102 (fun h => h)
      have kv106 := kv102.trans k106 (fun _ _ h => h)
      have ku106 := ku102.trans k106 (fun _ _ h => h)
      have s106 := lt_blk hi106
      have s102 := kv102.size
      have su102 := ku102.size
      have lp := lt_blk hp102
      have lq := lt_blk hq102
      have lb30 := lt_blk hb30
      let fnv : Value := .func (.func reach_Index_Up_fn1.id) #[] #[.pointer (some ⟨pb, 0, none⟩), .pointer (some ⟨qb, 0, none⟩)]
      let ρ0 : Env := [(0, .pointer (some ⟨x, 0, none⟩)), (1, .pointer (some ⟨r, 0, none⟩)), (6, .pointer (some ⟨w4.heap.size, 0, none⟩)), (7, .slice A8 (D.length + 1) c8), (8, .int .i64 (i : Int)), (10, .pointer (some ⟨w27.heap.size, 0, none⟩)), (13, .pointer (some ⟨w102.heap.size, 0, none⟩)), (89, fnv)]
      let J : Nat → World → Prop := fun j u => u.heap[w102.heap.size]? = some (.cells #[.int .i64 (j : Int)] T_int (0, 0)) ∧ Kept (· = w102.heap.size) w106 u ∧ j ≤ up.length
      have kJ : ∀ {u : World}, Kept (· = w102.heap.size) w106 u → Kept Nil w102 u := fun k => k106.trans k (fun k hk e => by omega)
      have k0J : ∀ {u : World}, Kept (· = w102.heap.size) w106 u → Kept Nil w u := fun k => k08.trans (kv102.trans (kJ k) (fun _ _ h => h)) (fun _ _ h => h)
      change Holds none [] Tryd.prog _ _ _ (ρ0 ++ [(dkey, .agg (marksA Ms))]) w106
      refine range_iter (n := 124) (ρ := ρ0 ++ [(dkey, .agg (marksA Ms))]) (ρ0 := ρ0) ng mix law12_same.k (t := 89) (ps := #[90]) (by kernel_rfl) (by decide) rfl reach_Index_Up_fn1.at_ rfl (.inr ⟨_, rfl⟩) (fun i x hi hx => (find_snoc (ρ := ρ0) (.agg (marksA Ms)) hi).trans hx) rfl encH up (fun _ => rfl) (fun q hq => by
          have e49 : q = 90 := by simpa using hq
          subst e49
          exact ⟨by decide, by decide⟩) (up_iter (F := F) (x := x) (m := m) (pb := pb) (qb := qb) hup (by omega)) J (fun _ _ => False) ?_ (fun _ _ _ _ _ h => h.elim) (fun j u h => ⟨hX (k0J h.2.1), (kJ h.2.1).heap hp102 (fun h => h), (kJ h.2.1).heap hq102 (fun h => h)⟩) ?_ ?_ ?_ (fun _ _ h => h.elim) (fun _ _ _ h => h.elim)
      · rintro j u1 u2 R hlv ⟨h1, h2, h3⟩ hk'
        exact ⟨hk'.heap h1 (ne_loop h1 hlv.loop), h2.trans hk' (fun k hk e => by omega), h3⟩
      · intro R
        exact ⟨old_blk (old_blk hi106 _) _, (((Kept.refl _ _).alloc _).alloc _), Nat.zero_le _⟩
      · rintro j z u1 R hz ⟨h1, h2, h3⟩ hlv
        have e7 : putAll ρ0 ((#[90] : Array Nat).toList.zip (encH z)) = [(0, .pointer (some ⟨x, 0, none⟩)), (1, .pointer (some ⟨r, 0, none⟩)), (6, .pointer (some ⟨w4.heap.size, 0, none⟩)), (7, .slice A8 (D.length + 1) c8), (8, .int .i64 (i : Int)), (10, .pointer (some ⟨w27.heap.size, 0, none⟩)), (13, .pointer (some ⟨w102.heap.size, 0, none⟩)), (89, fnv), (90, .agg z.1)] := rfl
        rw [e7, law12_same.a1]
        have hjl := (List.getElem?_eq_some_iff.1 hz).1
        unfold law12_same.A1
        intro w117
        obtain ⟨hwr, hbx, hkx⟩ := box_set (w := u1) (z := hnull.1) (cs := z.1) (t := T_api_Hash) (by rw [z.2.1]; rfl)
        refine ⟨⟨z.2.1, z.2.one, fun j hj => hwr j (by rw [z.2.1]; exact hj)⟩, ?_⟩
        intro w120
        replace hbx : w120.heap[u1.heap.size]? = some (.cells z.1 T_api_Hash (0, 0)) := hbx
        replace hkx : Kept Nil u1 w120 := hkx
        clear_value w120
        have hl88 := hlv.keep hkx (fun h => h) (fun h => h)
        refine ⟨hl88, fun w2 R2 hk2 hl2 => ?_⟩
        have hb2 := hk2.heap hbx (ne_loop hbx hl88.loop)
        have h188 := hkx.heap h1 (fun h => h)
        have h12 := hk2.heap h188 (ne_loop h188 hl88.loop)
        have h22 : Kept (· = w102.heap.size) w106 w2 := (h2.trans hkx (fun _ _ h => h.elim)).trans hk2 (fun k hk e => by omega)
        rw [law12_same.y1]
        unfold law12_same.Y1
        intro w125
        have k125 : Kept Nil w2 w125 := (Kept.refl _ _).drew
        clear_value w125
        have h193 := k125.heap h12 (fun h => h)
        have hb93 := k125.heap hb2 (fun h => h)
        have h293 := h22.trans k125 (fun _ _ h => h.elim)
        have hl93 := hl2.keep k125 (fun h => h) (fun h => h)
        have ku125 : Kept Nil w30 w125 := ku102.trans (kJ h293) (fun _ _ h => h)
        refine ⟨(j : Int), by rw [cell_blk h193]; rfl, A27, up.length, c27, hbu ku125, Split.no (decide_eq_false (by omega)) ⟨z.1, ⟨z.2.1, Cells.blk hb93⟩, A27, up.length, c27, hbu ku125, (j : Int), by rw [cell_blk h193]; rfl, ?_⟩⟩
        refine (hup30 ku125).load (i := (j : Int)) (by omega) (by rw [Int.toNat_natCast]; exact hz) ⟨⟨z.2.ints, z.2.ints⟩, ?_⟩
        rw [sameInts_eq]
        refine Split.no (by rw [decide_eq_true rfl]; rfl) ⟨(j : Int), by rw [cell_blk h193]; rfl, wr_blk h193 (by simp), ?_⟩
        intro w136
        have hi108 : w136.heap[w102.heap.size]? = some (.cells #[.int .i64 ((j + 1 : Nat) : Int)] T_int (0, 0)) := by
          show (w125.setCell ⟨w102.heap.size, 0, none⟩ (.int .i64 (IntKind.i64.wrap ((j : Int) + (1 : Int))))).heap[w102.heap.size]? = _
          rw [wrapP (n := (j : Int)) (by omega) (by omega), set_blk h193 0]
          rfl
        have k108 : Kept (· = w102.heap.size) w125 w136 := by
          show Kept (· = w102.heap.size) w125 (w125.setCell ⟨w102.heap.size, 0, none⟩ (.int .i64 (IntKind.i64.wrap ((j : Int) + (1 : Int)))))
          exact Kept.setCell (S := fun k => k = w102.heap.size) (Kept.refl _ w125) (p := ⟨w102.heap.size, 0, none⟩) (fun _ => rfl) _
        clear_value w136
        exact ⟨hl93.keep k108 (ne_loop h193 hl93.loop).symm (ne_mark h193 hl93.mark).symm, hi108, h293.trans k108 (fun _ _ h => h), hjl⟩
      · rintro u1 R ⟨h1, h2, h3⟩ hlv
        have e7 : addMark (ρ0 ++ [(dkey, .agg (marksA Ms))]) w106.heap.size = [(0, .pointer (some ⟨x, 0, none⟩)), (1, .pointer (some ⟨r, 0, none⟩)), (6, .pointer (some ⟨w4.heap.size, 0, none⟩)), (7, .slice A8 (D.length + 1) c8), (8, .int .i64 (i : Int)), (10, .pointer (some ⟨w27.heap.size, 0, none⟩)), (13, .pointer (some ⟨w102.heap.size, 0, none⟩)), (89, fnv), (4294967296, .agg (marksA (w106.heap.size :: Ms)))] := rfl
        rw [e7, law12_same.z1_normal _ _ _ _ _ _ _ _ _ _ #[]]
        unfold law12_same.Z1_normal
        have ku1 : Kept Nil w30 u1 := ku102.trans (kJ h2) (fun _ _ h => h)
        refine ⟨((up.length : Nat) : Int), by rw [cell_blk h1]; rfl, A27, up.length, c27, hbu ku1, Split.no (by simp) ?_⟩
        rw [wrapP (n := (i : Int)) (by omega) (by omega)]
        have kvu1 : Kept Nil v u1 := by
          have : Kept Nil v w30 := ((((k16.trans k20 (fun _ _ h => h)).trans k22 (fun _ _ h => h)).trans k27 (fun _ _ h => h)).trans k30 (fun _ _ h => h))
          exact this.trans ku1 (fun _ _ h => h)
        refine ⟨((i : Int) + 1, marksA (w106.heap.size :: Ms)), rfl, ⟨i + 1, w106.heap.size :: Ms, rfl, by omega, kv.trans kvu1 (fun _ _ h => h), ?_, fun E hE => ?_⟩, by simp only; omega⟩
        · rw [List.nodup_cons]
          refine ⟨fun hE => ?_, hnd⟩
          have h1 := lt_blk (hMs _ hE).2
          have h2 : v.heap.size ≤ w30.heap.size := ((((k16.trans k20 (fun _ _ h => h)).trans k22 (fun _ _ h => h)).trans k27 (fun _ _ h => h)).trans k30 (fun _ _ h => h)).size
          have h3 := ku106.size
          omega
        · rcases List.mem_cons.1 hE with rfl | hE
          · exact ⟨by have := kv106.size; omega, hlv.mark⟩
          · exact ⟨(hMs E hE).1, kvu1.heap (hMs E hE).2 (fun h => h)⟩
  · simp only at hge
    rw [roundQ_exit, law12_same.x1_0]
    unfold law12_same.X1_0
    intro w37
    have k37 : Kept Nil v w37 := (Kept.refl _ _).drew
    clear_value w37
    have k037 := k0v.trans k37 (fun _ _ h => h)
    refine reach_Graph_ok (hX k037) ⟨_, rfl, Split.yes rfl ?_⟩
    obtain ⟨A0, n0, c0, hc0, rfl, hns⟩ := (hR k037).go (k := fun A c => True) (fun _ _ _ => trivial)
    refine Is.mk rfl ⟨A0, D.length, c0, hc0, reach_Graph_ok (hX k037) ⟨_, rfl, hc0, ?_⟩⟩
    obtain ⟨bl, c, mb, M, G⟩ := (hX k037).G
    have hr37 := (kv.trans k37 (fun _ _ h => h)).heap hr8 (fun h => h)
    refine dag_Len G ⟨_, rfl, hc0, wr_blk hr37 (by simp), ?_⟩
    intro w49
    have k49 : Kept (· = w4.heap.size) w37 w49 := Kept.setCell (S := fun k => k = w4.heap.size) (Kept.refl _ w37) (p := ⟨w4.heap.size, 0, none⟩) (fun _ => rfl) _
    have hr49 : w49.heap[w4.heap.size]? = some (.cells #[.bool true] T_bool (0, 0)) := by
      show (w37.setCell ⟨w4.heap.size, 0, none⟩ (.bool ((D.length : Int) == (D.length : Int)))).heap[w4.heap.size]? = _
      rw [set_blk hr37 0]
      simp
    clear_value w49
    rw [marksOf_A]
    have hm49 : ∀ E ∈ Ms, w49.heap[E]? = some (.deferred (some [])) := fun E hE => k49.heap (k37.heap (hMs E hE).2 (fun h => h)) (by have := (hMs E hE).1; omega)
    have kt := takeAll_kept Ms w49
    have hrt := kt.heap hr49 (fun hE => by have := (hMs _ hE).1; omega)
    refine ⟨marksOk_of Ms w49 hnd hm49, true, by rw [cell_blk hrt]; rfl, hK _ ?_⟩
    have s08 := k08.size
    exact (k037.trans k49 (fun k hk e => by omega)).trans kt (fun k hk hE => by have := (hMs k hE).1; omega)
end
end Go.Proofs.YtgfkpemnkmebkaaDoor
/-
  The walk of ReachPlays.
-/
namespace Go.Proofs.YtgfkpemnkmebkaaDoor
open Go Go.Lite Go.RowKit

section
variable {w w' : World} {FP : Nat → Prop} {K : Value → World → Prop}
theorem playsX_ok {A : Option Addr} {n c : Nat} {l : List SN} (hl : Stp w FP A n l) (hn : n < 9223372036854775808) (root other : HT) (hT : Tab w) (hK : ∀ w', Kept Nil w w' → K (.bool true) w') :
    Ret Tryd.prog law12_ReachPlays.id #[.agg root.1, .slice A n c, .agg other.1] w K := by
  have hlen := hl.len
  refine law12_ReachPlays.of ?_
  unfold law12_ReachPlays.W
  intro w4 w5
  have k4 : Kept Nil w w4 := (Kept.refl _ _).alloc _
  have hr4 : w4.heap[w.heap.size]? = some (.cells root.1 T_api_Hash (0, 0)) := new_blk w _
  have k5 : Kept Nil w4 w5 := (Kept.refl _ _).alloc _
  have ho5 : w5.heap[w4.heap.size]? = some (.cells other.1 T_api_Hash (0, 0)) := new_blk w4 _
  have hr5 := k5.heap hr4 (fun h => h)
  clear_value w5
  have k05 := k4.trans k5 (fun _ _ h => h)
  refine fewS_ok (hl.same k05) hn 22 fun x hx => ⟨x, rfl, ?_⟩
  cases x with
  | false => exact Split.yes rfl (knownX_ok (hT.same k05) fun w10 k10 => ⟨true, rfl, hK w10 (k05.trans k10 (fun _ _ h => h))⟩)
  | true =>
    obtain ⟨hps, hll⟩ := hx.1 rfl
    refine Split.no rfl ⟨root.1, ⟨root.2.1, Cells.blk hr5⟩, beginX_ok (hl.same k05) (by omega) hps root (hT.same k05) fun w14 S F x FR r B k14 _ _ _ _ => ⟨some ⟨x, 0, none⟩, some ⟨r, 0, none⟩, true, rfl, Split.yes rfl ?_⟩⟩
    have k014 := k05.trans k14 (fun _ _ h => h)
    have hDl := buildX_len root l
    refine ⟨other.1, ⟨other.2.1, Cells.blk (k14.heap ho5 (fun h => h))⟩, sameX_ok B (by omega) other fun w20 k20 => ⟨true, rfl, Split.yes rfl ?_⟩⟩
    have k020 := k014.trans k20 (fun _ _ h => h)
    exact knownX_ok (hT.same k020) fun w23 k23 => ⟨true, rfl, hK w23 (k020.trans k23 (fun _ _ h => h))⟩
end
end Go.Proofs.YtgfkpemnkmebkaaDoor
