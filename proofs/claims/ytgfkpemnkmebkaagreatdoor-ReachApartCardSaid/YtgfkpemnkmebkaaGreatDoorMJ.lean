/-
  The document's index: New, Add, Up, Chain.
-/
import Derived.Test.YtgfkpemnkmebkaaGreatDoorMI
import Derived.Test.YtgfkpemnkmebkaaGreatDoorMG
import Derived.Test.YtgfkpemnkmebkaaGreatDoorMF
import Derived.Maps.Range
set_option linter.unusedVariables false
namespace Go.Proofs.YtgfkpemnkmebkaaGreatDoor
open Go Go.Lite Go.RowKit

/-- the selected ones, in a row -/
def SelL (D : DG) (P : List Int) (l : List HT) : Prop := l.length = D.length ∧ ∀ (i j : Nat) (m : DN), P[i]? = some (j : Int) → D[j]? = some m → l[i]? = some m.id
structure IsR2 (w : World) (F : Nat → Prop) (r : Nat) (D : DG) (P : List Int) : Prop where
  ex : ∃ (A : Option Addr) (c : Nat) (B : Option Addr) (e : Nat) (l : List HT), w.heap[r]? = some (.cells #[.slice A D.length c, .slice B D.length e] T_plexusref12_Index (0, 0)) ∧ NS w F A D.length D ∧ HS w B D.length l ∧ (∀ a, B = some a → F a.block) ∧ SelL D P l
  far : ¬ F r
  sel : Sel D P
  W : WfD D
section
variable {w w' : World} {F F' S : Nat → Prop} {r : Nat} {D : DG} {P : List Int} {K : Value → World → Prop}
theorem IsR2.keep (h : IsR2 w F r D P) (hk : Kept S w w') (hr : ¬ S r) (hn : ∀ k, F k → ¬ S k) : IsR2 w' F r D P := by
  obtain ⟨A, c, B, e, l, h1, h2, h3, h4, h5⟩ := h.ex
  exact ⟨⟨A, c, B, e, l, hk.heap h1 hr, h2.keep hk hn, h3.keep hk (fun a ha => hn _ (h4 a ha)), h4, h5⟩, h.far, h.sel, h.W⟩
theorem IsR2.same (h : IsR2 w F r D P) (hk : Kept Nil w w') : IsR2 w' F r D P := h.keep hk (fun h => h) (fun _ _ h => h)
theorem IsR2.lt (h : IsR2 w F r D P) : r < w.heap.size := by obtain ⟨A, c, B, e, l, h1, _⟩ := h.ex; exact lt_blk h1
theorem IsR2.mono (h : IsR2 w F r D P) (hf : ∀ k, F k → F' k) (hr : ¬ F' r) : IsR2 w F' r D P := by
  obtain ⟨A, c, B, e, l, h1, h2, h3, h4, h5⟩ := h.ex
  exact ⟨⟨A, c, B, e, l, h1, h2.mono hf, h3, fun a ha => hf _ (h4 a ha), h5⟩, hr, h.sel, h.W⟩
theorem IsR2.gr (h : IsR2 w F r D P) : IsR w F r D := by
  obtain ⟨A, c, B, e, l, h1, h2, _⟩ := h.ex
  exact ⟨⟨A, c, _, _, h1, rfl, h2⟩, h.far⟩
theorem atI_at (W : WfD D) {j : Nat} {nd : DN} (h : D[j]? = some nd) : atI D nd.id = (j : Int) := by unfold atI; rw [W.pos_eq h]
/-- Up -/
theorem ref12_Up (H : IsR2 w F r D P) (hD : D.length ≤ 10000) (h : HT) (hK : ∀ A c w' l, ChainL D P h l → HRow w' w.heap.size A l.length c l → Kept Nil w w' → K (.slice A l.length c) w') :
    Ret Tryz.prog ref12_Index_Up.id #[.pointer (some ⟨r, 0, none⟩), .agg h.1] w K := by
  have W := H.W
  have hpar := H.sel.par
  refine ref12_Index_Up.of ?_
  unfold ref12_Index_Up.W
  intro w3 w4
  have k3 : Kept Nil w w3 := (Kept.refl _ _).alloc _
  have hb3 : w3.heap[w.heap.size]? = some (.cells h.1 T_api_Hash (0, 0)) := new_blk w _
  have k4 : Kept Nil w3 w4 := (Kept.refl _ _).drew
  clear_value w4
  have hb4 := k4.heap hb3 (fun h => h)
  have k04 := k3.trans k4 (fun _ _ h => h)
  refine ⟨h.1, ⟨h.2.1, Cells.blk hb4⟩, ?_⟩
  rw [add_zero]
  refine ref_At (H.gr.same k04) (by omega) h fun w8 k8 => ⟨_, rfl, ?_⟩
  have k08 := k04.trans k8 (fun _ _ h => h)
  have hb8 := k8.heap hb4 (fun h => h)
  have s08 := k08.size
  have l08 := lt_blk hb8
  by_cases hm : ¬ h ∈ ids D
  · have hneg := atI_neg.2 hm
    refine ref12_Index_Up.loop1 (I := fun s v => s = (none, 0, 0, atI D h) ∧ v = w8) (μ := fun _ _ => 0) (s := (none, 0, 0, atI D h)) ⟨rfl, rfl⟩ ?_
    rintro s v ⟨rfl, rfl⟩
    refine Split.no (decide_eq_false (by simp only; omega)) ?_
    simp only
    rw [roundQ_exit, ref12_Index_Up.x1_0]
    exact hK none 0 v [] (.inl ⟨hm, rfl⟩) (HRow.nil _ _) k08
  replace hm := Classical.not_not.1 hm
  obtain ⟨nd, hnd, hid⟩ := ids_mem.1 hm
  obtain ⟨i, hi⟩ := List.mem_iff_getElem?.1 hnd
  have hil := (List.getElem?_eq_some_iff.1 hi).1
  obtain ⟨ks, hks⟩ := Up.ex hpar i (by rw [H.sel.len]; exact hil)
  have hkl := hks.len hpar
  refine ref12_Index_Up.loop1 (I := fun s v => ∃ (k : Nat) (nk : DN) (dn rs : List Nat) (A : Option Addr) (c : Nat), s = (A, dn.length, c, (k : Int)) ∧ ks = dn ++ rs ∧ Up P k rs ∧ D[k]? = some nk ∧ v.heap[w.heap.size]? = some (.cells nk.id.1 T_api_Hash (0, 0)) ∧ HRow v w8.heap.size A dn.length c (dn.map (idAt D)) ∧ Kept (· = w.heap.size) w8 v)
    (μ := fun s _ => s.2.2.2.toNat) (s := (none, 0, 0, atI D h)) ⟨i, nd, [], ks, none, 0, by rw [← hid, atI_at W hi]; rfl, rfl, hks, hi, by rw [hid]; exact hb8, HRow.nil _ _, Kept.refl _ _⟩ ?_
  rintro s v ⟨k, nk, dn, rs, A, c, rfl, hsp, hur, hnk, hbv, row, kv⟩
  have hklt := (List.getElem?_eq_some_iff.1 hnk).1
  have k0v : Kept Nil w v := k08.trans kv (fun q hq e => by omega)
  have sv := kv.size
  refine Split.yes (decide_eq_true (by simp only; omega)) ⟨nk.id.1, ⟨nk.id.2.1, Cells.blk hbv⟩, nk.id.2.1, ?_⟩
  intro w16
  have k16 : Kept Nil v w16 := (Kept.refl _ _).alloc _
  have hb16 : HS w16 (some ⟨v.heap.size, 0, none⟩) 1 [nk.id] := hbox v nk.id
  clear_value w16
  have hdl : dn.length ≤ ks.length := by rw [hsp]; simp
  have s16 := k16.size
  obtain ⟨A2, c2, w18, hr18, row18, hg18, _⟩ := append_hs (cx := 1) T_sl_api_Hash (Row.keep row k16 (fun _ _ h => h)) hb16 (by omega) (by omega)
  have k18 : Kept (· = w.heap.size) w8 w18 := (kv.trans k16 (fun _ _ h => h.elim)).grown hg18 (fun q hq hlt => by have := (Row.blk row hq).1; omega)
  have k018 : Kept Nil w w18 := k08.trans k18 (fun q hq e => by omega)
  have hrowid : dn.map (idAt D) ++ [nk.id] = (dn ++ [k]).map (idAt D) := by simp [idAt_get hnk]
  rw [hrowid] at row18
  have hb18 : w18.heap[w.heap.size]? = some (.cells nk.id.1 T_api_Hash (0, 0)) := by
    have hkg : Kept (fun q => blkOf A = some q) w16 w18 := Kept.grown (Kept.refl _ _) hg18 (fun q hq _ => hq)
    exact hkg.heap (k16.heap hbv (fun h => h)) (fun e => by have := (Row.blk row e).1; omega)
  refine ⟨A2, _, c2, w18, hr18, ?_⟩
  cases hur with
  | root =>
    refine Split.yes rfl ?_
    simp only
    rw [roundQ_exit, ref12_Index_Up.x1_0]
    have e : (ks.map (idAt D)).length = dn.length + 1 := by rw [hsp]; simp
    have := hK A2 c2 w18 (ks.map (idAt D)) (.inr ⟨i, nd, ks, hi, hid, hks, rfl⟩) (by rw [e, hsp]; exact Row.base row18 (fun b hb => Nat.le_trans s08 (Row.blk row18 hb).1)) k018
    rwa [e] at this
  | @step _ j rs' hj hu' =>
    have hjk := (Tr.kids_lt hpar (Tr.mem_kids.2 hj)).1
    refine Split.no (by simp only [beq_eq_false_iff_ne, ne_eq]; omega) ?_
    obtain ⟨A0, c0, B, e, l, h1, h2, h3, h4, h5⟩ := (H.same k018).ex
    obtain ⟨nj, hnj⟩ : ∃ nj, D[j]? = some nj := ⟨_, List.getElem?_eq_getElem (by omega)⟩
    refine ⟨B, D.length, e, by rw [add_at, cell_blk h1]; rfl, ?_⟩
    refine h3.load (i := (k : Int)) (by omega) (by rw [Int.toNat_natCast]; exact h5.2 k j nj hj hnj) ?_
    obtain ⟨g1, g2, g3⟩ := set_box hb18 (cs := nj.id.1) (by rw [nj.id.2.1, nk.id.2.1])
    refine ⟨⟨nj.id.2.1, nj.id.2.one, fun q hq => g1 q (by rw [nj.id.2.1]; exact hq)⟩, ?_⟩
    intro w25 w26
    replace g2 : w25.heap[w.heap.size]? = some (.cells nj.id.1 T_api_Hash (0, 0)) := g2
    replace g3 : Kept (· = w.heap.size) w18 w25 := g3
    have k26 : Kept Nil w25 w26 := (Kept.refl _ _).drew
    clear_value w26 w25
    have g2' := k26.heap g2 (fun h => h)
    have k826 : Kept (· = w.heap.size) w8 w26 := (k18.trans g3 (fun _ _ h => h)).trans k26 (fun _ _ h => h.elim)
    have k026 : Kept Nil w w26 := k08.trans k826 (fun q hq e => by omega)
    refine ⟨nj.id.1, ⟨nj.id.2.1, Cells.blk g2'⟩, ?_⟩
    rw [add_zero]
    refine ref_At (H.gr.same k026) (by omega) nj.id fun w30 k30 => ⟨_, rfl, ?_⟩
    rw [atI_at W hnj]
    refine ⟨(A2, dn.length + 1, c2, (j : Int)), rfl, ⟨j, nj, dn ++ [k], rs', A2, c2, by simp, by rw [hsp]; simp, hu', hnj, k30.heap g2' (fun h => h), ?_, k826.trans k30 (fun _ _ h => h.elim)⟩, by simp only; omega⟩
    rw [List.length_append]
    exact Row.keep (Row.keep (Row.keep row18 g3 (fun q hq e => by have := (Row.blk row18 hq).1; omega)) k26 (fun _ _ h => h)) k30 (fun _ _ h => h)
end
end Go.Proofs.YtgfkpemnkmebkaaGreatDoor
/-
  The document's index: New, Add.
-/
namespace Go.Proofs.YtgfkpemnkmebkaaGreatDoor
open Go Go.Lite Go.RowKit

theorem set1 (w : World) (r j : Nat) (v : Value) : setCells w ((⟨r, 0, none⟩ : Addr).add j) [v] 0 = w.setCell ⟨r, j, none⟩ v := by
  simp only [setCells]
  rw [add_at, add_at, Nat.add_zero, Nat.zero_add]
theorem Sel.one (r : HT) : Sel [⟨r, []⟩] [-1] := ⟨rfl, rfl, fun i p nd hi hp => by
  cases i with
  | zero => omega
  | succ i => simp at hp⟩
section
variable {w w' : World} {F F' S : Nat → Prop} {r : Nat} {D : DG} {P : List Int} {K : Value → World → Prop}
theorem ref12_New_ok (root : HT) (hK : ∀ v r F, IsR2 v F r [⟨root, []⟩] [-1] → (∀ k, F k → w.heap.size ≤ k ∧ k < v.heap.size) → w.heap.size ≤ r → Kept Nil w v → K (.pointer (some ⟨r, 0, none⟩)) v) :
    Ret Tryz.prog ref12_New.id #[.agg root.1] w K := by
  refine ref12_New.of ?_
  unfold ref12_New.W
  intro w2
  have k2 : Kept Nil w w2 := (Kept.refl _ _).alloc _
  have hb2 : w2.heap[w.heap.size]? = some (.cells root.1 T_api_Hash (0, 0)) := new_blk w _
  clear_value w2
  have hsz : (root.1.push (.slice none 0 0)).size = 33 := by rw [Array.size_push, root.2.1]
  refine ⟨root.1, ⟨root.2.1, Cells.blk hb2⟩, ?_⟩
  rw [builtRef]
  refine Is.mk rfl ⟨hsz, ?_⟩
  intro w5
  have h5 : w5.heap[w2.heap.size]? = some (.cells (root.1.push (.slice none 0 0)) T_plexusref10_Node (0, 0)) := by
    have := new_blk w2 (.cells (root.1.push (.slice none 0 0)) T_plexusref10_Node)
    show (w2.alloc (.cells ((root.1.push (.slice none 0 0)).toList ++ []).toArray T_plexusref10_Node)).heap[w2.heap.size]? = _
    rw [List.append_nil, Array.toArray_toList]
    exact this
  have k5 : Kept Nil w2 w5 := (Kept.refl _ _).alloc _
  clear_value w5
  refine ⟨rfl, ?_⟩
  intro w6
  have h6 : w6.heap[w5.heap.size]? = some (.cells hnull.1 T_api_Hash (0, 0)) := new_blk w5 _
  have k6 : Kept Nil w5 w6 := (Kept.refl _ _).alloc _
  clear_value w6
  intro w7
  have h7 : w7.heap[w6.heap.size]? = some (.cells #[.slice (some ⟨w2.heap.size, 0, none⟩) 1 1, .slice (some ⟨w5.heap.size, 0, none⟩) 1 1] T_plexusref12_Index (0, 0)) := new_blk w6 _
  have k7 : Kept Nil w6 w7 := (Kept.refl _ _).alloc _
  clear_value w7
  have s2 := k2.size
  have s5 := k5.size
  have s6 := k6.size
  have l5 := lt_blk h5
  have l6 := lt_blk h6
  have h57 := k7.heap (k6.heap h5 (fun h => h)) (fun h => h)
  have h67 := k7.heap h6 (fun h => h)
  have l67 := lt_blk h67
  refine hK w7 _ (fun k => k = w2.heap.size ∨ k = w5.heap.size) ⟨⟨_, _, _, _, [hnull], h7, ⟨rfl, fun i nd hi => ?_⟩, HS.one h67, fun a ha => by cases ha; exact .inr rfl, ⟨rfl, fun i j m hi hj => ?_⟩⟩, fun e => by omega, Sel.one root, WfD.root root⟩ (fun k e => by omega) (by omega) (((k2.trans k5 (fun _ _ h => h)).trans k6 (fun _ _ h => h)).trans k7 (fun _ _ h => h))
  · cases i with
    | zero =>
      simp at hi
      subst hi
      refine ⟨_, none, 0, 0, rfl, lt_blk h57, .inl rfl, fun j u hj => ?_, HS.nil _ _, fun b hb => by cases hb⟩
      rw [Nat.zero_mul, add_zero, add_at, Nat.zero_add, cell_blk h57]
      exact hj
    | succ i => simp at hi
  · cases i with
    | zero => simp at hi
    | succ i => simp at hi
theorem SelL.snoc {l : List HT} (h : SelL D P l) (hs : Sel D P) (W : WfD D) {nd : DN} {j : Nat} {mj : DN} (hj : D[j]? = some mj) : SelL (D ++ [nd]) (P ++ [(j : Int)]) (l ++ [mj.id]) := by
  have hjl := (List.getElem?_eq_some_iff.1 hj).1
  refine ⟨by simp [h.1], fun i k m hi hm => ?_⟩
  by_cases hil : i < P.length
  · rw [List.getElem?_append_left hil] at hi
    have hil' : i < D.length := by rw [← hs.len]; exact hil
    rw [List.getElem?_append_left (by rw [h.1]; exact hil')]
    have hpar := hs.par
    have hk : k < D.length := by
      rcases Nat.eq_zero_or_pos i with rfl | h0
      · rw [hpar.root] at hi; simp only [Option.some.injEq] at hi; omega
      · obtain ⟨j', h1, h2⟩ := hpar.up i _ h0 hi
        omega
    rw [List.getElem?_append_left hk] at hm
    exact h.2 i k m hi hm
  · have hil2 := (List.getElem?_eq_some_iff.1 hi).1
    have e : i = P.length := by simp at hil2; omega
    subst e
    simp at hi
    have : k = j := by omega
    subst this
    rw [List.getElem?_append_left hjl, hj] at hm
    cases hm
    rw [hs.len, ← h.1]
    simp
theorem ref12_Add (H : IsR2 w F r D P) (hF : ∀ k, F k → k < w.heap.size) (hD : D.length ≤ 5000) {h s : HT} {lp : List HT} {A : Option Addr} {n c : Nat} (hl : HS w A n lp) (hn : n ≤ 100000)
    (hK : ∀ w', IsR2 w' (fun k => F k ∨ (w.heap.size ≤ k ∧ k < w'.heap.size)) r (addXD D h s lp) (addXP D P h s lp) → Kept (· = r) w w' → K (.int .i64 (addXC D h s lp)) w') :
    Ret Tryz.prog ref12_Index_Add.id #[.pointer (some ⟨r, 0, none⟩), .agg h.1, .agg s.1, .slice A n c] w K := by
  have hrlt := H.lt
  have W := H.W
  have hno : ∀ w', Kept Nil w w' → ∀ e, addXC D h s lp = e → e ≠ 0 → K (.int .i64 e) w' := fun w' k e he hne => by
    have := hK w' ?_ (k.mono fun _ _ h => h.elim)
    · rw [he] at this; exact this
    · unfold addXD addXP
      rw [if_neg (by rw [he]; exact hne), if_neg (by rw [he]; exact hne)]
      exact (H.same k).mono (fun _ h => .inl h) (fun e => e.elim H.far (fun h => by omega))
  refine ref12_Index_Add.of ?_
  unfold ref12_Index_Add.W
  intro w5 w6
  have k5 : Kept Nil w w5 := (Kept.refl _ _).alloc _
  have hi5 : w5.heap[w.heap.size]? = some (.cells h.1 T_api_Hash (0, 0)) := new_blk w _
  have k6 : Kept Nil w5 w6 := (Kept.refl _ _).alloc _
  have hs6 : w6.heap[w5.heap.size]? = some (.cells s.1 T_api_Hash (0, 0)) := new_blk w5 _
  clear_value w6
  have hi6 := k6.heap hi5 (fun h => h)
  have k06 := k5.trans k6 (fun _ _ h => h)
  have s5 := k5.size
  have s6 := k6.size
  have l5 := lt_blk hi5
  have l6 := lt_blk hs6
  clear_value w5
  obtain ⟨A0, c0, B0, e0, sl, htop, hns, hsl, hB0, hSel⟩ := H.ex
  have htop6 := k06.heap htop (fun h => h)
  refine Is.mk rfl ⟨#[.slice A0 D.length c0], ⟨rfl, fun j v hj => ?_⟩, ?_⟩
  · cases j with
    | zero =>
      rw [add_zero, add_zero, cell_blk htop6]
      simpa using hj
    | succ j => simp at hj
  intro w9
  have h9 : w9.heap[w6.heap.size]? = some (.cells #[.slice none 0 0] T_plexusref10_Graph (0, 0)) := new_blk w6 _
  have k9 : Kept Nil w6 w9 := (Kept.refl _ _).alloc _
  clear_value w9
  obtain ⟨g1, g2, g3⟩ := set_box h9 (cs := #[.slice A0 D.length c0]) rfl
  refine ⟨⟨rfl, fun u hu => ?_, fun j hj => g1 j hj⟩, ?_⟩
  · simp at hu
    subst hu
    rfl
  intro w12
  replace g2 : w12.heap[w6.heap.size]? = some (.cells #[.slice A0 D.length c0] T_plexusref10_Graph (0, 0)) := g2
  replace g3 : Kept (· = w6.heap.size) w9 w12 := g3
  clear_value w12
  have k612 : Kept Nil w6 w12 := k9.trans g3 (fun k hk e => by omega)
  have k012 := k06.trans k612 (fun _ _ h => h)
  refine ⟨h.1, ⟨h.2.1, Cells.blk (k612.heap hi6 (fun h => h))⟩, ?_⟩
  have hR : IsR w12 F w6.heap.size D := ⟨⟨A0, c0, _, _, g2, rfl, hns.same k012⟩, fun e => by have := hF _ e; omega⟩
  have s12 := k012.size
  refine ref_Add hR W (by omega) (hl.same k012) (by omega) fun w15 hR15 k15 => ⟨_, rfl, ?_⟩
  have k015 : Kept Nil w w15 := k012.trans k15 (fun k hk e => by omega)
  by_cases hC : addC D h lp ≠ 0
  · refine Split.yes (by simpa using hC) ?_
    refine hno w15 k015 _ ?_ hC
    unfold addXC
    rw [if_neg hC]
  replace hC := Classical.not_not.1 hC
  refine Split.no (by rw [hC]; rfl) ?_
  have hs15 : w15.heap[w5.heap.size]? = some (.cells s.1 T_api_Hash (0, 0)) := k15.heap (k612.heap hs6 (fun h => h)) (by omega)
  refine ⟨s.1, ⟨s.2.1, Cells.blk hs15⟩, ref_In s (hl.same k015) (by omega) fun w19 k19 => ⟨_, rfl, ?_⟩⟩
  have k019 := k015.trans k19 (fun _ _ h => h)
  by_cases hsm : ¬ s ∈ lp
  · refine Split.yes (by rw [decide_eq_false hsm]; rfl) ?_
    refine hno w19 k019 2 ?_ (by omega)
    unfold addXC
    rw [if_pos hC, if_neg hsm]
  replace hsm := Classical.not_not.1 hsm
  refine Split.no (by rw [decide_eq_true hsm]; rfl) ?_
  have eX : addXC D h s lp = 0 := by unfold addXC; rw [if_pos hC, if_pos hsm]
  obtain ⟨hin, hne, hnd, hall⟩ := addC_ok hC
  obtain ⟨mj, hmj, hms⟩ := ids_mem.1 (hall s (mem_srt.2 hsm))
  obtain ⟨j, hj⟩ := List.mem_iff_getElem?.1 hmj
  have eP : addXP D P h s lp = P ++ [(j : Int)] := by
    unfold addXP
    rw [if_pos eX, ← hms, W.pos_eq hj]
    rfl
  have eD : addXD D h s lp = D ++ [⟨h, srt lp⟩] := by unfold addXD; rw [if_pos eX]
  rw [addD_yes hC] at hR15
  obtain ⟨A1, c1, cs1, t1, h1, hc1, hns1⟩ := (hR15.same k19).ex
  rw [List.length_append, List.length_singleton] at hns1 hc1
  have hg19 : w19.cell? (⟨w6.heap.size, 0, none⟩ : Addr) = some (.slice A1 (D.length + 1) c1) := by rw [cell_blk h1]; exact hc1
  have sz1 := k019.size
  have htop19 := k019.heap htop (fun h => h)
  refine ⟨#[.slice A1 (D.length + 1) c1], ⟨rfl, fun i v hi => ?_⟩, Is.mk rfl ⟨⟨rfl, fun u hu => ?_, fun i hi => ?_⟩, ?_⟩⟩
  · cases i with
    | zero =>
      rw [add_zero, hg19]
      simpa using hi
    | succ i => simp at hi
  · simp at hu
    subst hu
    rfl
  · have : i = 0 := by omega
    subst this
    rw [add_zero, add_zero]
    exact wr_blk htop19 (by simp)
  intro w25 w26
  have hw25 : w25.heap[r]? = some (.cells #[.slice A1 (D.length + 1) c1, .slice B0 D.length e0] T_plexusref12_Index (0, 0)) := by
    show (setCells w19 ((⟨r, 0, none⟩ : Addr).add 0) [.slice A1 (D.length + 1) c1] 0).heap[r]? = _
    rw [set1, set_blk htop19]
    rfl
  have k25 : Kept (· = r) w19 w25 := by
    show Kept (· = r) w19 (setCells w19 ((⟨r, 0, none⟩ : Addr).add 0) [.slice A1 (D.length + 1) c1] 0)
    rw [add_zero]
    exact setCells_kept _ _ _ _
  have k26 : Kept Nil w25 w26 := (Kept.refl _ _).drew
  clear_value w26 w25
  have hw26 := k26.heap hw25 (fun h => h)
  have k1926 : Kept (· = r) w19 w26 := k25.trans k26 (fun _ _ h => h.elim)
  have hsl26 : HS w26 B0 D.length sl := (hsl.same k019).keep k1926 (fun a ha e => H.far (e ▸ hB0 a ha))
  have hs26 : w26.heap[w5.heap.size]? = some (.cells s.1 T_api_Hash (0, 0)) := k1926.heap (k19.heap hs15 (fun h => h)) (fun e => by omega)
  refine Is.mk rfl ⟨B0, D.length, e0, by rw [add_at, cell_blk hw26]; rfl, s.1, ⟨s.2.1, Cells.blk hs26⟩, ?_⟩
  -- what both orders come to
  have fin : ∀ (v : World) (A2 : Option Addr) (c2 : Nat), Kept Nil w26 v → HRow v w26.heap.size A2 (D.length + 1) c2 (sl ++ [s]) →
      Is (some (⟨r, 0, none⟩ : Addr)) fun a => Wr v (a.add 1) ∧ K (.int .i64 0) (v.setCell (a.add 1) (.slice A2 (D.length + 1) c2)) := fun v A2 c2 kv row => by
    refine Is.mk rfl ?_
    rw [add_at]
    have hv := kv.heap hw26 (fun h => h)
    have kf : Kept (· = r) v (v.setCell ⟨r, 0 + 1, none⟩ (.slice A2 (D.length + 1) c2)) := Kept.setCell (S := fun k => k = r) (Kept.refl _ v) (p := ⟨r, 0 + 1, none⟩) (fun _ => rfl) _
    refine ⟨wr_blk hv (by simp), ?_⟩
    have kall : Kept (· = r) w (v.setCell ⟨r, 0 + 1, none⟩ (.slice A2 (D.length + 1) c2)) := (((k019.mono (S' := (· = r)) (fun _ _ h => h.elim)).trans k1926 (fun _ _ h => h)).trans kv (fun _ _ h => h.elim)).trans kf (fun _ _ h => h)
    have := hK (v.setCell ⟨r, 0 + 1, none⟩ (.slice A2 (D.length + 1) c2)) ?_ kall
    · rw [eX] at this
      exact this
    rw [eD, eP]
    have hbA : ∀ b, blkOf A2 = some b → w26.heap.size ≤ b ∧ b < v.heap.size := fun b hb => by
      obtain ⟨q1, cur, q2⟩ := Row.blk row hb
      exact ⟨q1, lt_blk q2⟩
    have s26 := k1926.size
    have sv := kv.size
    have sf := kf.size
    have k1526 : Kept (· = r) w15 w26 := (k19.mono (S' := (· = r)) (fun _ _ h => h.elim)).trans k1926 (fun _ _ h => h)
    refine ⟨⟨A1, c1, A2, c2, sl ++ [s], ?_, ?_, ?_, fun a ha => .inr ?_, ?_⟩, fun e => e.elim H.far (fun e => by omega), H.sel.snoc hj (by rw [hms]; exact mem_srt.2 hsm) (by have := (List.getElem?_eq_some_iff.1 hj).1; omega), W.snoc hin hall (SS_srt lp)⟩
    · rw [List.length_append, List.length_singleton, set_blk hv]
      rfl
    · rw [List.length_append, List.length_singleton]
      have hk' : Kept (· = r) w19 (v.setCell ⟨r, 0 + 1, none⟩ (.slice A2 (D.length + 1) c2)) := (k1926.trans kv (fun _ _ h => h.elim)).trans kf (fun _ _ h => h)
      refine (hns1.keep hk' fun k hk e => ?_).mono fun k hk => ?_
      · rcases hk with hk | hk
        · exact H.far (e ▸ hk)
        · omega
      · rcases hk with hk | hk
        · exact .inl hk
        · have := k19.size
          exact .inr ⟨by omega, by omega⟩
    · rw [List.length_append, List.length_singleton]
      exact (HRow.hs row).keep kf (fun a ha e => by have := hbA a.block (by rw [ha]; rfl); omega)
    · have := hbA a.block (by rw [ha]; rfl)
      exact ⟨by omega, by omega⟩
    · rw [← hms]
      exact hSel.snoc H.sel W hj
  have hcs : ∀ {u : World}, Kept Nil w26 u → ∃ cs : Array Value, (.agg s.1 : Value) = .agg cs ∧ cs.size = 32 ∧ Cells u (⟨w5.heap.size, 0, none⟩ : Addr) cs := fun k => ⟨s.1, rfl, s.2.1, Cells.blk (k.heap hs26 (fun h => h))⟩
  refine ⟨?_, ?_⟩
  · obtain ⟨A3, c3, w31, hr31, row31, hg31, hb31⟩ := append_hs (cx := e0) T_sl_api_Hash (HRow.nil w26 w26.heap.size) hsl26 (by omega) (Nat.le_refl _)
    rw [Nat.zero_add] at hr31 row31
    rw [List.nil_append] at row31
    have k31 : Kept Nil w26 w31 := Kept.growNew (Kept.refl _ _) hg31 (fun k hk => by cases hk)
    refine ⟨A3, _, c3, w31, hr31, hcs k31, s.2.1, ?_⟩
    intro w32
    have k32 : Kept Nil w31 w32 := (Kept.refl _ _).alloc _
    have hx32 : HS w32 (some ⟨w31.heap.size, 0, none⟩) 1 [s] := hbox w31 s
    clear_value w32
    have s32 := k32.size
    have s31 := k31.size
    obtain ⟨A4, c4, w34, hr34, row34, hg34, hb34⟩ := append_hs (cx := 1) T_sl_api_Hash (Row.keep row31 k32 (fun _ _ h => h)) hx32 (by omega) (by omega)
    have k34 : Kept Nil w26 w34 := Kept.growNew (k31.trans k32 (fun _ _ h => h)) hg34 (fun k hk => (Row.blk row31 hk).1)
    exact ⟨A4, _, c4, w34, hr34, fin w34 A4 c4 k34 row34⟩
  · refine ⟨s.2.1, ?_⟩
    intro w37
    have k37 : Kept Nil w26 w37 := (Kept.refl _ _).alloc _
    have hx37 : HS w37 (some ⟨w26.heap.size, 0, none⟩) 1 [s] := hbox w26 s
    clear_value w37
    have s37 := k37.size
    refine ⟨by rw [add_at, cell_blk (k37.heap hw26 (fun h => h))]; rfl, ?_⟩
    obtain ⟨A3, c3, w39, hr39, row39, hg39, hb39⟩ := append_hs (cx := e0) T_sl_api_Hash (HRow.nil w37 w37.heap.size) (hsl26.same k37) (by omega) (Nat.le_refl _)
    rw [Nat.zero_add] at hr39 row39
    rw [List.nil_append] at row39
    have k39 : Kept Nil w37 w39 := Kept.growNew (Kept.refl _ _) hg39 (fun k hk => by cases hk)
    have s39 := k39.size
    obtain ⟨A4, c4, w41, hr41, row41, hg41, hb41⟩ := append_hs (cx := 1) T_sl_api_Hash row39 (hx37.same k39) (by omega) (by omega)
    have k41 : Kept Nil w37 w41 := Kept.growNew k39 hg41 (fun k hk => (Row.blk row39 hk).1)
    exact ⟨A3, _, c3, w39, hr39, A4, _, c4, w41, hr41, fin w41 A4 c4 (k37.trans k41 (fun _ _ h => h)) (Row.base row41 (fun k hk => by have := (Row.blk row41 hk).1; omega))⟩
end
end Go.Proofs.YtgfkpemnkmebkaaGreatDoor
/-
  Steps of an index; few, all; both indexes side by side; begin.
-/
namespace Go.Proofs.YtgfkpemnkmebkaaGreatDoor
open Go Go.Lite Go.RowKit

/-- a step: who, its selected parent, its parents -/
structure SN where
  id : HT
  sel : HT
  ps : List HT
/-- a slice of steps, to be read; F: where all that lies -/
structure Stp (w : World) (F : Nat → Prop) (A : Option Addr) (n : Nat) (l : List SN) : Prop where
  len : l.length = n
  at_ : ∀ (i : Nat) sn, l[i]? = some sn → ∃ a pA pn pc, A = some a ∧ F a.block ∧ Cells w (a.add (i * 65)) sn.id.1 ∧ Cells w ((a.add (i * 65)).add 32) sn.sel.1 ∧ w.cell? ((a.add (i * 65)).add 64) = some (.slice pA pn pc) ∧ HS w pA pn sn.ps ∧ ∀ b, pA = some b → F b.block
theorem Stp.keep {S F : Nat → Prop} {w w' : World} {A : Option Addr} {n : Nat} {l : List SN} (h : Stp w F A n l) (hk : Kept S w w') (hn : ∀ k, F k → ¬ S k) : Stp w' F A n l := ⟨h.len, fun i sn hi => by
  obtain ⟨a, pA, pn, pc, h1, h2, h3, h4, h5, h6, h7⟩ := h.at_ i sn hi
  exact ⟨a, pA, pn, pc, h1, h2, Cells.keep h3 hk (by rw [addr_block]; exact hn _ h2), Cells.keep h4 hk (by rw [addr_block, addr_block]; exact hn _ h2), hk.cell h5 (by rw [addr_block, addr_block]; exact hn _ h2), h6.keep hk (fun b hb => hn _ (h7 b hb)), h7⟩⟩
theorem Stp.same {F : Nat → Prop} {w w' : World} {A : Option Addr} {n : Nat} {l : List SN} (h : Stp w F A n l) (hk : Kept Nil w w') : Stp w' F A n l := h.keep hk (fun _ _ h => h)

def fewS (l : List SN) (most : Nat) : Prop := (∀ sn ∈ l, sn.ps.length ≤ 8) ∧ l.length ≤ most
section
variable {w w' v : World} {F FP FR S S2 F2 : Nat → Prop} {x r : Nat} {D D' : DG} {P P' : List Int} {K : Value → World → Prop}
theorem fewS_ok {A : Option Addr} {n c : Nat} {l : List SN} (hl : Stp w FP A n l) (hn : n < 9223372036854775808) (most : Nat) (hK : ∀ x : Bool, (x = true ↔ fewS l most) → K (.bool x) w) :
    Ret Tryz.prog law12_few.id #[.slice A n c, .int .i64 (most : Int)] w K := by
  have hlen := hl.len
  refine law12_few.of (law12_few.loop1 (I := fun s w' => w' = w ∧ ∃ i : Nat, s = (false, (i : Int)) ∧ i ≤ n ∧ ∀ nd ∈ l.take i, nd.ps.length ≤ 8) (μ := fun s _ => ((n : Int) - s.2).toNat) (s := (false, 0)) ⟨rfl, 0, rfl, Nat.zero_le _, by simp⟩ ?_)
  rintro s w' ⟨rfl, i, rfl, hi, hall⟩
  refine Split.dec (fun hil0 => ?_) (fun hge => ?_)
  · simp only at hil0
    have hil : i < n := by omega
    obtain ⟨nd, hnd⟩ : ∃ nd, l[i]? = some nd := ⟨_, List.getElem?_eq_getElem (by omega)⟩
    obtain ⟨a, pA, pn, pc, rfl, _, _, _, h5, hps, _⟩ := hl.at_ i nd hnd
    have hpl := hps.len
    refine ⟨⟨by omega, by omega⟩, pA, pn, pc, by rw [Int.toNat_natCast]; exact h5, ?_⟩
    refine Split.dec (fun hgt => ?_) (fun hle => ?_)
    · refine hK false ⟨(fun h => by cases h), fun h => ?_⟩
      have := h.1 nd (List.mem_of_getElem? hnd)
      omega
    · simp only
      rw [wrapI (x := (i : Int) + 1) (by omega) (by omega)]
      refine ⟨(false, (i : Int) + 1), rfl, ⟨rfl, i + 1, rfl, hil, fun md hm => ?_⟩, by simp only; omega⟩
      rw [List.take_add_one, hnd] at hm
      simp only [Option.toList_some, List.mem_append, List.mem_singleton] at hm
      rcases hm with hm | rfl
      · exact hall md hm
      · omega
  · simp only at hge
    rw [roundQ_exit, law12_few.x1_0]
    rw [List.take_of_length_le (by omega)] at hall
    refine hK _ ⟨fun h => ⟨hall, ?_⟩, fun h => decide_eq_true ?_⟩
    · have := of_decide_eq_true h; omega
    · have := h.2; omega

/-- the document's nodes, read through an index -/
theorem IsR2.go (H : IsR2 w F r D P) {k : Option Addr → Nat → Prop} (hk : ∀ A c, NS w F A D.length D → k A c) : ∃ A n c, w.cell? (((⟨r, 0, none⟩ : Addr).add 0).add 0) = some (.slice A n c) ∧ n = D.length ∧ k A c := by
  obtain ⟨A, c, B, e, l, h1, h2, _⟩ := H.ex
  exact ⟨A, D.length, c, by rw [add_zero, add_zero, cell_blk h1]; rfl, rfl, hk A c h2⟩
theorem all_ok (H : IsR2 w F r D P) (hD : D.length ≤ 10000) (other : HT) (hK : ∀ A c w', HRow w' w.heap.size A (D.length + 1) c (other :: ids D) → Kept Nil w w' → K (.slice A (D.length + 1) c) w') :
    Ret Tryz.prog law12_all.id #[.pointer (some ⟨r, 0, none⟩), .agg other.1] w K := by
  refine law12_all.of ?_
  unfold law12_all.W
  intro w3
  have k3 : Kept Nil w w3 := (Kept.refl _ _).alloc _
  have hb3 : w3.heap[w.heap.size]? = some (.cells other.1 T_api_Hash (0, 0)) := new_blk w _
  clear_value w3
  refine ⟨other.1, ⟨other.2.1, Cells.blk hb3⟩, other.2.1, ?_⟩
  intro w5
  have k5 : Kept Nil w3 w5 := (Kept.refl _ _).alloc _
  have hb5 : w5.heap[w3.heap.size]? = some (.cells (other.1.toList ++ []).toArray T_api_Hash (0, 0)) := new_blk w3 _
  clear_value w5
  have k05 := k3.trans k5 (fun _ _ h => h)
  have s3 := k3.size
  have row5 : HRow w5 w.heap.size (some ⟨w3.heap.size, 0, none⟩) 1 1 [other] := by
    have e : hcells [other] = (other.1.toList ++ []).toArray.toList := by simp [hcells]
    show Row _ _ _ _ _ _ _ (hcells [other])
    rw [e]
    exact Row.made hb5 (by omega) (by simp [other.2.1]) (by unfold maxLen; omega)
  refine law12_all.loop1 (I := fun s v => ∃ (i : Nat) (A : Option Addr) (c : Nat), s = (A, i + 1, c, (i : Int)) ∧ i ≤ D.length ∧ HRow v w.heap.size A (i + 1) c (other :: (ids D).take i) ∧ Kept Nil w v) (μ := fun s _ => ((D.length : Int) - s.2.2.2).toNat) (s := (some ⟨w3.heap.size, 0, none⟩, 1, 1, 0)) ⟨0, _, _, rfl, Nat.zero_le _, row5, k05⟩ ?_
  rintro s v ⟨i, A, c, rfl, hi, row, kv⟩
  obtain ⟨A0, n0, c0, hc0, rfl, hns⟩ := (H.same kv).go (k := fun A c => NS v F A D.length D) (fun _ _ h => h)
  refine Is.mk rfl ⟨A0, D.length, c0, hc0, Split.dec (fun hil0 => ?_) (fun hge => ?_)⟩
  · simp only at hil0
    have hil : i < D.length := by omega
    obtain ⟨nd, hnd⟩ : ∃ nd, D[i]? = some nd := ⟨_, List.getElem?_eq_getElem hil⟩
    refine Is.mk rfl ⟨A0, D.length, c0, hc0, ?_⟩
    refine hns.id (i := (i : Int)) (by omega) (by rw [Int.toNat_natCast]; exact hnd) ⟨nd.id.2.1, ?_⟩
    intro w16
    have k16 : Kept Nil v w16 := (Kept.refl _ _).alloc _
    have hx16 : HS w16 (some ⟨v.heap.size, 0, none⟩) 1 [nd.id] := hbox v nd.id
    clear_value w16
    have sv := kv.size
    have s16 := k16.size
    obtain ⟨A2, c2, w18, hr18, row18, hg18, _⟩ := append_hs (cx := 1) T_sl_api_Hash (Row.keep row k16 (fun _ _ h => h)) hx16 (by omega) (by omega)
    refine ⟨A2, _, c2, w18, hr18, ?_⟩
    simp only
    rw [wrapP (n := (i : Int)) (by omega) (by omega)]
    refine ⟨(A2, i + 1 + 1, c2, (i : Int) + 1), rfl, ⟨i + 1, A2, c2, rfl, hil, ?_, Kept.growNew (kv.trans k16 (fun _ _ h => h)) hg18 (fun k hk => (Row.blk row hk).1)⟩, by simp only; omega⟩
    have e : other :: (ids D).take (i + 1) = other :: (ids D).take i ++ [nd.id] := by rw [List.take_add_one, ids_get hnd]; rfl
    rw [e]
    exact row18
  · simp only at hge
    have : i = D.length := by omega
    subst this
    rw [roundQ_exit, law12_all.x1_0]
    rw [List.take_of_length_le (by rw [ids_len]; exact Nat.le_refl _)] at row
    exact hK A c v row kv

/-- Add of an index, whatever comes of it -/
theorem reach_AddI (h : IsX w S F x D P) (hD : D.length ≤ 5000) (hT : Tab w) (hTn : ¬ S (Tryz.tzL_ren.g 1)) {A : Option Addr} {n cx : Nat} {lp : List HT} (hl : HS w A n lp) (hn : n ≤ 5000) (hid s : HT)
    (hK : ∀ u S' F', IsX u S' F' x (addXD D hid s lp) (addXP D P hid s lp) → Kept S w u → (∀ k, S' k → S k ∨ w.heap.size ≤ k) → (∀ k, F' k → F k ∨ w.heap.size ≤ k) → K (.int .i64 (addXC D hid s lp)) u) :
    Ret Tryz.prog reach_Index_Add.id #[.pointer (some ⟨x, 0, none⟩), .agg hid.1, .agg s.1, .slice A n cx] w K := by
  obtain ⟨m, h1, h2⟩ := h
  refine reach_Add h1 hD hT (fun e => hTn (h2 _ (.inl e))) hl hn hid s (fun u k hc => ?_) (fun u S' F' hI k hS hF hc => ?_)
  · refine hK u S F ?_ (k.mono fun _ _ h => h.elim) (fun k h => .inl h) (fun k h => .inl h)
    unfold addXD addXP
    rw [if_neg hc, if_neg hc]
    exact ⟨m, h1.same k, h2⟩
  · have := hK u S' F' hI (k.mono fun k _ h => h2 k h) (fun k h => (hS k h).imp (h2 k) (fun h => h)) hF
    rw [hc] at this
    exact this

/-- the program's index and the document's, the same, apart in memory -/
structure BothX (w : World) (S F : Nat → Prop) (x : Nat) (FR : Nat → Prop) (r : Nat) (D : DG) (P : List Int) : Prop where
  X : IsX w S F x D P
  R : IsR2 w FR r D P
  rS : ¬ S r
  rF : ¬ F r
  fS : ∀ k, FR k → ¬ S k
  low : ∀ k, FR k → k < w.heap.size
theorem IsX.low (h : IsX w S F x D P) : ∃ S', IsX w S' F x D P ∧ ∀ k, S' k → S k ∧ k < w.heap.size :=
  let ⟨m, h1, h2⟩ := h; ⟨fun k => m.foot x k, ⟨m, h1, fun _ h => h⟩, fun k e => ⟨h2 k e, h1.low k (.inl e)⟩⟩
theorem IsX.lowF (h : IsX w S F x D P) : ∀ k, F k → k < w.heap.size := let ⟨_, h1, _⟩ := h; fun k e => h1.low k (.inr e)
theorem BothX.keep {S0 : Nat → Prop} (B : BothX w S F x FR r D P) (k : Kept S0 w w') (hS : ∀ k, S k → ¬ S0 k) (hF : ∀ k, F k → ¬ S0 k) (hr : ¬ S0 r) (hR : ∀ k, FR k → ¬ S0 k) : BothX w' S F x FR r D P :=
  ⟨B.X.keep k hS hF, B.R.keep k hr hR, B.rS, B.rF, B.fS, fun k' h => Nat.lt_of_lt_of_le (B.low k' h) k.size⟩
theorem BothX.same (B : BothX w S F x FR r D P) (k : Kept Nil w w') : BothX w' S F x FR r D P := B.keep k (fun _ _ h => h) (fun _ _ h => h) (fun h => h) (fun _ _ h => h)
/-- behind the program's Add, and then the document's -/
theorem BothX.after (B : BothX w S F x FR r D P) (kv : Kept S w v) (hS2 : ∀ k, S2 k → S k ∨ w.heap.size ≤ k) (hF2 : ∀ k, F2 k → F k ∨ w.heap.size ≤ k) (hX2 : IsX v S2 F2 x D' P') :
    IsR2 v FR r D P ∧ ∀ u, IsR2 u (fun k => FR k ∨ (v.heap.size ≤ k ∧ k < u.heap.size)) r D' P' → Kept (· = r) v u → ∃ S3, (∀ k, S3 k → S2 k) ∧ BothX u S3 F2 x (fun k => FR k ∨ (v.heap.size ≤ k ∧ k < u.heap.size)) r D' P' := by
  have hr := B.R.lt
  have nS : ¬ S2 r := fun e => by
    rcases hS2 r e with h | h
    · exact B.rS h
    · omega
  have nF : ¬ F2 r := fun e => by
    rcases hF2 r e with h | h
    · exact B.rF h
    · omega
  refine ⟨B.R.keep kv B.rS B.fS, fun u hu ku => ?_⟩
  obtain ⟨S3, hX3, h3⟩ := hX2.low
  refine ⟨S3, fun k hk => (h3 k hk).1, hX3.keep ku (fun k hk e => nS (e ▸ (h3 k hk).1)) (fun k hk e => nF (e ▸ hk)), hu, fun e => nS (h3 _ e).1, nF, fun k hk hs => ?_, fun k hk => ?_⟩
  · obtain ⟨hs1, hs2⟩ := h3 k hs
    rcases hk with hk | ⟨hk, _⟩
    · rcases hS2 k hs1 with h | h
      · exact B.fS k hk h
      · have := B.low k hk; omega
    · omega
  · rcases hk with hk | hk
    · have := B.low k hk
      have := kv.size
      have := ku.size
      omega
    · exact hk.2

/-! what steps come to -/
structure DP where
  D : DG
  P : List Int
def stepX (a : DP) (s : SN) : DP := ⟨addXD a.D s.id s.sel s.ps, addXP a.D a.P s.id s.sel s.ps⟩
def buildX (root : HT) (l : List SN) : DP := l.foldl stepX ⟨[⟨root, []⟩], [-1]⟩
theorem addXD_len (D : DG) (h s : HT) (l : List HT) : (addXD D h s l).length ≤ D.length + 1 := by
  unfold addXD
  split
  · simp
  · omega
theorem stepX_len : ∀ (l : List SN) (a : DP), (l.foldl stepX a).D.length ≤ a.D.length + l.length
  | [], a => Nat.le_refl _
  | s :: l, a => by
    have h1 := stepX_len l (stepX a s)
    have h2 : (stepX a s).D.length ≤ a.D.length + 1 := addXD_len _ _ _ _
    rw [List.foldl_cons, List.length_cons]
    omega
theorem buildX_len (root : HT) (l : List SN) : (buildX root l).D.length ≤ 1 + l.length := by
  have := stepX_len l ⟨[⟨root, []⟩], [-1]⟩
  simpa [buildX] using this
theorem stepX_snoc {a : DP} {l : List SN} {i : Nat} {s : SN} (h : l[i]? = some s) : (l.take (i + 1)).foldl stepX a = stepX ((l.take i).foldl stepX a) s := by
  rw [List.take_add_one, h]
  simp

theorem hs_keep {S : Nat → Prop} {pA : Option Addr} {pn : Nat} {ps : List HT} (h : HS w pA pn ps) (k : Kept S w w') (hs : ps ≠ [] → ∀ a, pA = some a → ¬ S a.block) : HS w' pA pn ps := by
  by_cases h0 : ps = []
  · subst h0
    have := h.len
    simp at this
    subst this
    exact HS.nil _ _
  · exact h.keep k (hs h0)
theorem hs_lt {pA : Option Addr} {pn : Nat} {ps : List HT} (h : HS w pA pn ps) (h0 : ps ≠ []) : ∀ a, pA = some a → a.block < w.heap.size := fun a ha => by
  obtain ⟨y, hy⟩ : ∃ y, ps[0]? = some y := ⟨_, List.getElem?_eq_getElem (by
    rcases Nat.eq_zero_or_pos ps.length with e | e
    · exact absurd (List.length_eq_zero_iff.1 e) h0
    · exact e)⟩
  obtain ⟨a', ha', hlt, _⟩ := h.at_ 0 y hy
  rw [ha] at ha'
  cases ha'
  exact hlt
/-- Add in both, one behind the other -/
theorem both_add (B : BothX v S F x FR r D P) (hD : D.length ≤ 4000) (hT : Tab v) (hTS : ¬ S (Tryz.tzL_ren.g 1)) {pA : Option Addr} {pn cx : Nat} {ps : List HT} (hps : HS v pA pn ps) (hpn : pn ≤ 1000) (hpS : ps ≠ [] → ∀ a, pA = some a → ¬ S a.block) (hid s : HT)
    (hK : ∀ u, Kept S v u → (∀ (c' : Nat) (K' : Value → World → Prop), (∀ t S' F' FR', BothX t S' F' x FR' r (addXD D hid s ps) (addXP D P hid s ps) → Kept (fun k => S k ∨ k = r) v t → (∀ k, S' k → S k ∨ v.heap.size ≤ k) → (∀ k, F' k → F k ∨ v.heap.size ≤ k) → (∀ k, FR' k → FR k ∨ v.heap.size ≤ k) → K' (.int .i64 (addXC D hid s ps)) t) →
        Ret Tryz.prog ref12_Index_Add.id #[.pointer (some ⟨r, 0, none⟩), .agg hid.1, .agg s.1, .slice pA pn c'] u K') → K (.int .i64 (addXC D hid s ps)) u) :
    Ret Tryz.prog reach_Index_Add.id #[.pointer (some ⟨x, 0, none⟩), .agg hid.1, .agg s.1, .slice pA pn cx] v K := by
  refine reach_AddI B.X (by omega) hT hTS hps (by omega) hid s fun u S2 F2 hX2 ku hS2 hF2 => hK u ku ?_
  intro c' K' hK'
  obtain ⟨hR, haft⟩ := B.after ku hS2 hF2 hX2
  have su := ku.size
  refine ref12_Add hR (fun k hk => Nat.lt_of_lt_of_le (B.low k hk) su) (by omega) (hs_keep hps ku hpS) (by omega) fun t hRt kt => ?_
  obtain ⟨S3, h3, hB⟩ := haft t hRt kt
  exact hK' t S3 F2 _ hB ((ku.mono (S' := fun k => S k ∨ k = r) (fun _ _ h => .inl h)).trans kt (fun _ _ h => .inr h)) (fun k hk => hS2 k (h3 k hk)) hF2 (fun k hk => hk.imp (fun h => h) (fun h => by omega))

/-- the steps, at the beginning -/
def BIX (w : World) (root : HT) (l : List SN) (x r : Nat) : Option Addr × Option Addr × Bool × Int → World → Prop := fun s v => ∃ (i : Nat) (S F FR : Nat → Prop), s = (none, none, false, (i : Int)) ∧ i ≤ l.length ∧ BothX v S F x FR r (buildX root (l.take i)).D (buildX root (l.take i)).P ∧ Kept Nil w v ∧ (∀ k, S k → w.heap.size ≤ k) ∧ (∀ k, F k → w.heap.size ≤ k) ∧ (∀ k, FR k → w.heap.size ≤ k) ∧ w.heap.size ≤ r
theorem beginX_ok {A : Option Addr} {n c : Nat} {l : List SN} (hl : Stp w FP A n l) (hn : n ≤ 1000) (hps : ∀ sn ∈ l, sn.ps.length ≤ 8) (root : HT) (hT : Tab w)
    (hK : ∀ v S F x FR r, BothX v S F x FR r (buildX root l).D (buildX root l).P → Kept Nil w v → (∀ k, S k → w.heap.size ≤ k) → (∀ k, F k → w.heap.size ≤ k) → (∀ k, FR k → w.heap.size ≤ k) → w.heap.size ≤ r → K (.tuple #[.pointer (some ⟨x, 0, none⟩), .pointer (some ⟨r, 0, none⟩), .bool true]) v) :
    Ret Tryz.prog law12_begin.id #[.agg root.1, .slice A n c] w K := by
  have hlen := hl.len
  refine law12_begin.of ?_
  unfold law12_begin.W
  intro w3 w4
  have hb4 : w4.heap[w.heap.size]? = some (.cells root.1 T_api_Hash (0, 0)) := new_blk w _
  have k4 : Kept Nil w w4 := ((Kept.refl Nil w).alloc (.cells root.1 T_api_Hash)).drew
  clear_value w4
  have hs4 := k4.size
  refine ⟨root.1, ⟨root.2.1, Cells.blk hb4⟩, root.1, ⟨root.2.1, Cells.blk hb4⟩, ?_⟩
  refine reach_New_ok root fun w8 x hX8 k8 => ⟨_, rfl, ⟨root.1, rfl, root.2.1, Cells.blk (k8.heap hb4 (fun h => h))⟩, ?_⟩
  have s8 := k8.size
  refine ref12_New_ok root fun w11 r FR hR11 hFR hr11 k11 => ⟨_, rfl, ?_⟩
  have s11 := k11.size
  have k011 : Kept Nil w w11 := (k4.trans k8 (fun _ _ h => h)).trans k11 (fun _ _ h => h)
  obtain ⟨S0, hX0, hS0⟩ := hX8.low
  refine law12_begin.loop1 (I := BIX w root l x r) (μ := fun s _ => ((n : Int) - s.2.2.2).toNat) (s := (none, none, false, 0)) ⟨0, S0, fun _ => False, FR, rfl, Nat.zero_le _, ⟨hX0.keep k11 (fun _ _ h => h) (fun _ h => h.elim), hR11, fun e => by have := (hS0 _ e).2; omega, fun h => h, fun k e e' => by have := (hS0 _ e').2; have := (hFR k e).1; omega, fun k e => (hFR k e).2⟩, k011, fun k e => by have := (hS0 _ e).1.1; omega, fun k e => e.elim, fun k e => by have := (hFR k e).1; omega, by omega⟩ ?_
  rintro s v ⟨i, S, F, FR', rfl, hi, B, kv, nS, nF, nR, nr⟩
  unfold law12_begin.B1
  refine Split.dec (fun hil0 => ?_) (fun hge => ?_)
  · simp only at hil0
    have hil : i < n := by omega
    obtain ⟨sn, hsn⟩ : ∃ sn, l[i]? = some sn := ⟨_, List.getElem?_eq_getElem (by omega)⟩
    have hpl := hps sn (List.mem_of_getElem? hsn)
    intro w20
    have k20 : Kept Nil v w20 := (Kept.refl _ _).drew
    clear_value w20
    have kw20 := kv.trans k20 (fun _ _ h => h)
    have sw := kw20.size
    obtain ⟨a, pA, pn, pc, rfl, _, h3, h4, h5, hq, _⟩ := hl.at_ i sn hsn
    have hpn := hq.len
    have hb : 0 ≤ (i : Int) ∧ (i : Int) < (n : Int) := ⟨by omega, by omega⟩
    have c1 : ∀ {u : World}, Kept Nil w u → Cells u ((a.add ((i : Int).toNat * 65)).add 0) sn.id.1 := fun k => by
      rw [Int.toNat_natCast, add_zero]
      exact Cells.keep h3 k (fun h => h)
    have c2 : ∀ {u : World}, Kept Nil w u → Cells u ((a.add ((i : Int).toNat * 65)).add 32) sn.sel.1 := fun k => by
      rw [Int.toNat_natCast]
      exact Cells.keep h4 k (fun h => h)
    have c3 : ∀ {u : World}, Kept Nil w u → u.cell? ((a.add ((i : Int).toNat * 65)).add 64) = some (.slice pA pn pc) := fun k => by
      rw [Int.toNat_natCast]
      exact k.cell h5 (fun h => h)
    refine ⟨hb, Is.mk rfl ⟨sn.id.1, ⟨sn.id.2.1, c1 kw20⟩, hb, Is.mk rfl ⟨sn.sel.1, ⟨sn.sel.2.1, c2 kw20⟩, hb, Is.mk rfl ⟨pA, pn, pc, c3 kw20, hb, Is.mk rfl ⟨sn.id.1, ⟨sn.id.2.1, c1 kw20⟩, hb, Is.mk rfl ⟨sn.sel.1, ⟨sn.sel.2.1, c2 kw20⟩, hb, Is.mk rfl ⟨pA, pn, pc, c3 kw20, ?_⟩⟩⟩⟩⟩⟩⟩
    have hDl := buildX_len root (l.take i)
    rw [List.length_take] at hDl
    have hTlt := hT.lt
    refine both_add (B.same k20) (by omega) (hT.same kw20) (fun e => by have := nS _ e; omega) (hq.same kw20) (by omega) (fun h0 b hb e => by have := nS _ e; have := hs_lt hq h0 b hb; omega) sn.id sn.sel fun u ku h2 => ?_
    have kwu : Kept Nil w u := kw20.trans ku (fun k hk e => by have := nS k e; omega)
    refine ⟨_, rfl, c3 kwu, ⟨sn.sel.1, rfl, sn.sel.2.1, c2 kwu⟩, ⟨sn.id.1, rfl, sn.id.2.1, c1 kwu⟩, h2 _ _ fun t S' F' FR2 B' kt hS' hF' hR' => ⟨_, rfl, Split.no (by simp) ?_⟩⟩
    simp only
    rw [wrapP (n := (i : Int)) (by omega) (by omega)]
    have s20 := k20.size
    refine ⟨(none, none, false, (i : Int) + 1), rfl, ⟨i + 1, S', F', FR2, rfl, by omega, ?_, kw20.trans kt (fun k hk e => e.elim (fun e => by have := nS k e; omega) (fun e => by omega)), fun k hk => (hS' k hk).elim (nS k) (fun h => by omega), fun k hk => (hF' k hk).elim (nF k) (fun h => by omega), fun k hk => (hR' k hk).elim (nR k) (fun h => by omega), nr⟩, by simp only; omega⟩
    have e : buildX root (l.take (i + 1)) = stepX (buildX root (l.take i)) sn := stepX_snoc hsn
    rw [e]
    exact B'
  · simp only at hge
    have : i = l.length := by omega
    subst this
    rw [roundQ_exit, law12_begin.x1_0]
    rw [List.take_of_length_le (Nat.le_refl _)] at B
    exact hK v S F x FR' r B kv nS nF nR nr
end
end Go.Proofs.YtgfkpemnkmebkaaGreatDoor
/-
  known: the chapter's rows.
-/
namespace Go.Proofs.YtgfkpemnkmebkaaGreatDoor
open Go Go.Lite Go.RowKit
open Tr (Und)

/-- four boxes of hashes, written one behind the other -/
theorem four (w : World) (r a b c : HT) :
    let w1 := w.alloc (.cells hnull.1 T_api_Hash); let w2 := w1.alloc (.cells hnull.1 T_api_Hash); let w3 := w2.alloc (.cells hnull.1 T_api_Hash); let w4 := w3.alloc (.cells hnull.1 T_api_Hash)
    let w7 := setCells w4 (⟨w.heap.size, 0, none⟩ : Addr) r.1.toList 0; let w10 := setCells w7 (⟨w1.heap.size, 0, none⟩ : Addr) a.1.toList 0; let w13 := setCells w10 (⟨w2.heap.size, 0, none⟩ : Addr) b.1.toList 0; let w16 := setCells w13 (⟨w3.heap.size, 0, none⟩ : Addr) c.1.toList 0
    ((∀ j, j < 32 → Wr w4 ((⟨w.heap.size, 0, none⟩ : Addr).add j)) ∧ (∀ j, j < 32 → Wr w7 ((⟨w1.heap.size, 0, none⟩ : Addr).add j)) ∧ (∀ j, j < 32 → Wr w10 ((⟨w2.heap.size, 0, none⟩ : Addr).add j)) ∧ (∀ j, j < 32 → Wr w13 ((⟨w3.heap.size, 0, none⟩ : Addr).add j))) ∧
    w16.heap[w.heap.size]? = some (.cells r.1 T_api_Hash (0, 0)) ∧ w16.heap[w1.heap.size]? = some (.cells a.1 T_api_Hash (0, 0)) ∧ w16.heap[w2.heap.size]? = some (.cells b.1 T_api_Hash (0, 0)) ∧ w16.heap[w3.heap.size]? = some (.cells c.1 T_api_Hash (0, 0)) ∧
    w.heap.size < w1.heap.size ∧ w1.heap.size < w2.heap.size ∧ w2.heap.size < w3.heap.size ∧ w3.heap.size < w16.heap.size ∧ Kept Nil w w16 := by
  intro w1 w2 w3 w4
  have k1' : Kept Nil w w1 := (Kept.refl _ _).alloc _
  have k2' : Kept Nil w1 w2 := (Kept.refl _ _).alloc _
  have k3' : Kept Nil w2 w3 := (Kept.refl _ _).alloc _
  have k4' : Kept Nil w3 w4 := (Kept.refl _ _).alloc _
  have hr1 : w1.heap[w.heap.size]? = some (.cells hnull.1 T_api_Hash (0, 0)) := new_blk w _
  have ha2 : w2.heap[w1.heap.size]? = some (.cells hnull.1 T_api_Hash (0, 0)) := new_blk w1 _
  have hb3 : w3.heap[w2.heap.size]? = some (.cells hnull.1 T_api_Hash (0, 0)) := new_blk w2 _
  have hc4 : w4.heap[w3.heap.size]? = some (.cells hnull.1 T_api_Hash (0, 0)) := new_blk w3 _
  clear_value w4
  have hb4 := k4'.heap hb3 (fun h => h)
  have ha4 := k4'.heap (k3'.heap ha2 (fun h => h)) (fun h => h)
  have hr4 := k4'.heap (k3'.heap (k2'.heap hr1 (fun h => h)) (fun h => h)) (fun h => h)
  have l1 := lt_blk hr1
  have l2 := lt_blk ha2
  have l3 := lt_blk hb3
  have l4 := lt_blk hc4
  clear_value w3 w2 w1
  have kw4 : Kept Nil w w4 := ((k1'.trans k2' (fun _ _ h => h)).trans k3' (fun _ _ h => h)).trans k4' (fun _ _ h => h)
  have sz : ∀ h : HT, hnull.1.size = h.1.size := fun h => by rw [h.2.1]; rfl
  obtain ⟨wr7, hr7, k7⟩ := set_box hr4 (cs := r.1) (sz r)
  rw [r.2.1] at wr7
  intro w7
  replace hr7 : w7.heap[w.heap.size]? = some (.cells r.1 T_api_Hash (0, 0)) := hr7
  replace k7 : Kept (· = w.heap.size) w4 w7 := k7
  clear_value w7
  obtain ⟨wr10, ha10, k10⟩ := set_box (k7.heap ha4 (by omega)) (cs := a.1) (sz a)
  rw [a.2.1] at wr10
  intro w10
  replace ha10 : w10.heap[w1.heap.size]? = some (.cells a.1 T_api_Hash (0, 0)) := ha10
  replace k10 : Kept (· = w1.heap.size) w7 w10 := k10
  clear_value w10
  obtain ⟨wr13, hb13, k13⟩ := set_box (k10.heap (k7.heap hb4 (by omega)) (by omega)) (cs := b.1) (sz b)
  rw [b.2.1] at wr13
  intro w13
  replace hb13 : w13.heap[w2.heap.size]? = some (.cells b.1 T_api_Hash (0, 0)) := hb13
  replace k13 : Kept (· = w2.heap.size) w10 w13 := k13
  clear_value w13
  obtain ⟨wr16, hc16, k16⟩ := set_box (k13.heap (k10.heap (k7.heap hc4 (by omega)) (by omega)) (by omega)) (cs := c.1) (sz c)
  rw [c.2.1] at wr16
  intro w16
  replace hc16 : w16.heap[w3.heap.size]? = some (.cells c.1 T_api_Hash (0, 0)) := hc16
  replace k16 : Kept (· = w3.heap.size) w13 w16 := k16
  clear_value w16
  have s16 := lt_blk hc16
  exact ⟨⟨wr7, wr10, wr13, wr16⟩, k16.heap (k13.heap (k10.heap hr7 (by omega)) (by omega)) (by omega), k16.heap (k13.heap ha10 (by omega)) (by omega), k16.heap hb13 (by omega), hc16, by omega, by omega, by omega, s16,
    (((kw4.trans k7 (fun k hk e => by omega)).trans k10 (fun k hk e => by omega)).trans k13 (fun k hk e => by omega)).trans k16 (fun k hk e => by omega)⟩

section
variable {r a b c : HT} (hra : r ≠ a) (hrb : r ≠ b) (hrc : r ≠ c) (hab : a ≠ b) (hac : a ≠ c) (hbc : b ≠ c)
theorem addX_yes {D : DG} {P : List Int} {h s : HT} {l : List HT} (hc : addC D h l = 0) (hs : s ∈ l) {j : Nat} (hj : pos s (ids D) 0 = some j) : addXC D h s l = 0 ∧ addXD D h s l = addD D h l ∧ addXP D P h s l = P ++ [(j : Int)] := by
  have e : addXC D h s l = 0 := by unfold addXC; rw [if_pos hc, if_pos hs]
  refine ⟨e, ?_, ?_⟩
  · unfold addXD addD
    rw [if_pos e, if_pos hc]
  · unfold addXP
    rw [if_pos e, hj]
    rfl
abbrev kP : List Int := [-1, 0, 0, 1]
theorem kSel : Sel (kD r a b c) kP where
  len := rfl
  root := rfl
  up := fun i p nd hi hp hnd => by
    match i, hi with
    | 1, _ => simp at hp hnd; subst hp hnd; exact ⟨0, _, rfl, by omega, rfl, by simp⟩
    | 2, _ => simp at hp hnd; subst hp hnd; exact ⟨0, _, rfl, by omega, rfl, by simp⟩
    | 3, _ => simp at hp hnd; subst hp hnd; exact ⟨1, _, rfl, by omega, rfl, mem_srt.2 (by simp)⟩
    | n + 4, _ => simp at hp
include hra hrb hrc hab hac hbc in
theorem kCh : Ch (kD r a b c) kP a c ∧ ¬ Ch (kD r a b c) kP b c ∧ coverL (kD r a b c) kP b = [c] := by
  have W := kW hra hrb hrc hab hac hbc
  have H := kSel (r := r) (a := a) (b := b) (c := c)
  obtain ⟨h1, h2, h3, h4⟩ := kAnc hra hrb hrc hab hac hbc
  have sc : SelOf (kD r a b c) kP a c := ⟨3, 1, _, _, rfl, rfl, rfl, rfl, rfl⟩
  have sa : SelOf (kD r a b c) kP r a := ⟨1, 0, _, _, rfl, rfl, rfl, rfl, rfl⟩
  refine ⟨⟨3, 1, _, _, rfl, rfl, rfl, rfl, .step rfl (.refl (by decide))⟩, fun h => ?_, ?_⟩
  · rcases h.inv W H with e | ⟨s, g1, g2⟩
    · exact hbc e
    · rw [SelOf.one W g1 sc] at g2
      rcases g2.inv W H with e | ⟨s, g3, g4⟩
      · exact hab e.symm
      · rw [SelOf.one W g3 sa] at g4
        rcases g4.inv W H with e | ⟨s, g5, _⟩
        · exact hrb e.symm
        · exact h1 s (.one (g5.par H))
  · refine SS_ext (SS_srt _) (by simp [SS]) fun x => ?_
    show x ∈ coverL _ _ b ↔ _
    unfold coverL
    rw [mem_pick, List.mem_singleton]
    constructor
    · rintro ⟨hx, hA, _⟩
      simp [ids] at hx
      rcases hx with rfl | rfl | rfl | rfl
      · exact absurd hA (h1 _)
      · exact absurd ((h2 b).1 hA).symm hrb
      · exact absurd hA (Anc.irrefl W _)
      · rfl
    · rintro rfl
      exact ⟨by simp [ids], (h4 b).2 (.inr (.inl rfl)), a, sc, fun e => hab e.symm, fun e => hrb ((h2 b).1 e).symm⟩
end

section
variable {w w' : World} {K : Value → World → Prop}
theorem knownX_ok (hT : Tab w) (hK : ∀ w', Kept Nil w w' → K (.bool true) w') : Ret Tryz.prog law12_known.id #[] w K := by
  let r := hx 1 (by omega)
  let a := hx 2 (by omega)
  let b := hx 3 (by omega)
  let c := hx 4 (by omega)
  have hra : r ≠ a := hx_inj (by omega)
  have hrb : r ≠ b := hx_inj (by omega)
  have hrc : r ≠ c := hx_inj (by omega)
  have hab : a ≠ b := hx_inj (by omega)
  have hac : a ≠ c := hx_inj (by omega)
  have hbc : b ≠ c := hx_inj (by omega)
  refine law12_known.of ?_
  unfold law12_known.W
  intro w1 w2 w3 w4
  obtain ⟨⟨f1, f2, f3, f4⟩, hr, ha, hb, hc, l1, l2, l3, l4, k⟩ := four w r a b c
  refine ⟨⟨r.2.1, r.2.one, f1⟩, ?_⟩
  intro w7
  refine ⟨⟨a.2.1, a.2.one, f2⟩, ?_⟩
  intro w10
  refine ⟨⟨b.2.1, b.2.one, f3⟩, ?_⟩
  intro w13
  refine ⟨⟨c.2.1, c.2.one, f4⟩, ?_⟩
  intro w16
  replace hr : w16.heap[w.heap.size]? = some (.cells r.1 T_api_Hash (0, 0)) := hr
  replace ha : w16.heap[w1.heap.size]? = some (.cells a.1 T_api_Hash (0, 0)) := ha
  replace hb : w16.heap[w2.heap.size]? = some (.cells b.1 T_api_Hash (0, 0)) := hb
  replace hc : w16.heap[w3.heap.size]? = some (.cells c.1 T_api_Hash (0, 0)) := hc
  replace k : Kept Nil w w16 := k
  replace l1 : w.heap.size < w1.heap.size := l1
  replace l2 : w1.heap.size < w2.heap.size := l2
  replace l3 : w2.heap.size < w3.heap.size := l3
  replace l4 : w3.heap.size < w16.heap.size := l4
  clear f1 f2 f3 f4
  clear_value w16
  clear w13 w10 w7
  clear_value w3
  clear w4
  clear_value w2
  clear_value w1
  have hTl := hT.lt
  have s16 := k.size
  -- what stands when only blocks behind w16 are written
  have box : ∀ {u : World} {S : Nat → Prop}, Kept S w16 u → (∀ k, S k → w16.heap.size ≤ k) → Cells u (⟨w.heap.size, 0, none⟩ : Addr) r.1 ∧ Cells u (⟨w1.heap.size, 0, none⟩ : Addr) a.1 ∧ Cells u (⟨w2.heap.size, 0, none⟩ : Addr) b.1 ∧ Cells u (⟨w3.heap.size, 0, none⟩ : Addr) c.1 := fun ku hS =>
    ⟨Cells.blk (ku.heap hr (fun e => by have := hS _ e; omega)), Cells.blk (ku.heap ha (fun e => by have := hS _ e; omega)), Cells.blk (ku.heap hb (fun e => by have := hS _ e; omega)), Cells.blk (ku.heap hc (fun e => by have := hS _ e; omega))⟩
  refine ⟨r.1, ⟨r.2.1, Cells.blk hr⟩, reach_New_ok r fun w19 x hX19 k19 => ⟨_, rfl, ?_⟩⟩
  obtain ⟨c1, c2, c3, c4⟩ := box k19 (fun _ h => h.elim)
  refine ⟨a.1, ⟨a.2.1, c2⟩, r.1, ⟨r.2.1, c1⟩, r.1, ⟨r.2.1, c1⟩, r.2.1, ?_⟩
  intro w24
  have k24 : Kept Nil w19 w24 := (Kept.refl _ _).alloc _
  have hb24 : HS w24 (some ⟨w19.heap.size, 0, none⟩) 1 [r] := hbox w19 r
  clear_value w24
  have k024 := k19.trans k24 (fun _ _ h => h)
  obtain ⟨e1, e2, e3⟩ := addX_yes (D := [⟨r, []⟩]) (P := [-1]) (h := a) (s := r) (l := [r]) (k1 hra).1 (by simp) (j := 0) (by simp [ids, pos])
  rw [(k1 hra).2] at e2
  refine reach_AddI (hX19.same k24) (by simp) (hT.same (k.trans k024 (fun _ _ h => h))) (fun e => by have := e.1; omega) hb24 (by omega) a r fun w26 S2 F2 hX26 k26 hS2 hF2 => ⟨_, rfl, ?_⟩
  rw [e1]
  rw [e2, e3] at hX26
  replace hX26 : IsX w26 S2 F2 x [⟨r, []⟩, ⟨a, [r]⟩] [-1, 0] := hX26
  refine Split.no rfl ?_
  have s24 := k024.size
  have m2 : ∀ q, S2 q → w16.heap.size ≤ q := fun q h => (hS2 q h).elim (fun h => h.1) (fun h => by omega)
  have k1626 : Kept (fun q => w16.heap.size ≤ q) w16 w26 := (k024.mono (S' := fun q => w16.heap.size ≤ q) (fun _ _ h => h.elim)).trans k26 (fun q _ h => h.1)
  obtain ⟨c1, c2, c3, c4⟩ := box k1626 (fun _ h => h)
  refine ⟨b.1, ⟨b.2.1, c3⟩, r.1, ⟨r.2.1, c1⟩, r.1, ⟨r.2.1, c1⟩, r.2.1, ?_⟩
  intro w31
  have k31 : Kept Nil w26 w31 := (Kept.refl _ _).alloc _
  have hb31 : HS w31 (some ⟨w26.heap.size, 0, none⟩) 1 [r] := hbox w26 r
  clear_value w31
  have k1631 := k1626.trans k31 (fun _ _ h => h.elim)
  obtain ⟨e1, e2, e3⟩ := addX_yes (D := [⟨r, []⟩, ⟨a, [r]⟩]) (P := [-1, 0]) (h := b) (s := r) (l := [r]) (k2 hrb hab).1 (by simp) (j := 0) (by simp [ids, pos])
  rw [(k2 hrb hab).2] at e2
  refine reach_AddI (hX26.same k31) (by simp) ((hT.same k).keep k1631 (fun e => by omega)) (fun e => by have := m2 _ e; omega) hb31 (by omega) b r fun w33 S3 F3 hX33 k33 hS3 hF3 => ⟨_, rfl, ?_⟩
  rw [e1]
  rw [e2, e3] at hX33
  replace hX33 : IsX w33 S3 F3 x [⟨r, []⟩, ⟨a, [r]⟩, ⟨b, [r]⟩] [-1, 0, 0] := hX33
  refine Split.no rfl ?_
  have s31 := k1631.size
  have m3 : ∀ q, S3 q → w16.heap.size ≤ q := fun q h => (hS3 q h).elim (m2 q) (fun h => by omega)
  have k1633 : Kept (fun q => w16.heap.size ≤ q) w16 w33 := k1631.trans k33 (fun q _ h => m2 q h)
  obtain ⟨c1, c2, c3, c4⟩ := box k1633 (fun _ h => h)
  refine ⟨c.1, ⟨c.2.1, c4⟩, a.1, ⟨a.2.1, c2⟩, a.1, ⟨a.2.1, c2⟩, b.1, ⟨b.2.1, c3⟩, a.2.1, b.2.1, ?_⟩
  intro w39
  have k39 : Kept Nil w33 w39 := (Kept.refl _ _).alloc _
  have hb39 : HS w39 (some ⟨w33.heap.size, 0, none⟩) 2 [a, b] := HS.lay (l := [a, b]) (t := T_api_Hash) (new_blk w33 (.cells (hcells [a, b]).toArray T_api_Hash))
  clear_value w39
  have k1639 := k1633.trans k39 (fun _ _ h => h.elim)
  obtain ⟨e1, e2, e3⟩ := addX_yes (D := [⟨r, []⟩, ⟨a, [r]⟩, ⟨b, [r]⟩]) (P := [-1, 0, 0]) (h := c) (s := a) (l := [a, b]) (k3 hrc hab hac hbc).1 (by simp) (j := 1) (by simp [ids, pos]; exact fun e => absurd e.symm hra)
  rw [(k3 hrc hab hac hbc).2] at e2
  refine reach_AddI (hX33.same k39) (by simp) ((hT.same k).keep k1639 (fun e => by omega)) (fun e => by have := m3 _ e; omega) hb39 (by omega) c a fun w41 S4 F4 hX41 k41 hS4 hF4 => ⟨_, rfl, ?_⟩
  rw [e1]
  rw [e2, e3] at hX41
  replace hX41 : IsX w41 S4 F4 x (kD r a b c) kP := hX41
  refine Split.no rfl ?_
  have k1641 : Kept (fun q => w16.heap.size ≤ q) w16 w41 := k1639.trans k41 (fun q _ h => m3 q h)
  obtain ⟨q1, q2, q3⟩ := kCh hra hrb hrc hab hac hbc
  obtain ⟨_, _, _, hA4⟩ := kAnc hra hrb hrc hab hac hbc
  have kw41 : Kept Nil w w41 := k.trans k1641 (fun q hq e => by omega)
  have hX : ∀ {v : World}, Kept Nil w41 v → IsX v S4 F4 x (kD r a b c) kP := fun k => hX41.same k
  obtain ⟨c1, c2, c3, c4⟩ := box k1641 (fun _ h => h)
  obtain ⟨m, hV, _⟩ := hX (Kept.refl _ _)
  refine ⟨b.1, ⟨b.2.1, c3⟩, reach_Cover hV (by simp) b (fun w' hn _ => absurd (by simp [ids]) hn) fun A45 c45 w45 _ row45 k45 => ⟨A45, _, c45, 0, rfl, ?_⟩⟩
  rw [q3] at row45 ⊢
  intro w48
  have k48 : Kept Nil w45 w48 := (Kept.refl _ _).drew
  have row48 : HRow w48 w41.heap.size A45 1 c45 [c] := Row.keep row45 k48 (fun _ _ h => h)
  clear_value w48
  have k4148 := k45.trans k48 (fun _ _ h => h)
  have bx : ∀ {u : World}, Kept Nil w41 u → Cells u (⟨w1.heap.size, 0, none⟩ : Addr) a.1 ∧ Cells u (⟨w2.heap.size, 0, none⟩ : Addr) b.1 ∧ Cells u (⟨w3.heap.size, 0, none⟩ : Addr) c.1 := fun k => (box (k1641.trans k (fun _ _ h => h.elim)) (fun _ h => h)).2
  refine Split.yes rfl (Split.yes rfl (row48.hs.load (i := 0) (by omega) rfl ⟨c.1, ⟨c.2.1, (bx k4148).2.2⟩, ⟨c.2.ints, c.2.ints⟩, ?_⟩))
  rw [sameInts_eq]
  refine Split.yes (decide_eq_true rfl) ⟨b.1, ⟨b.2.1, (bx k4148).2.1⟩, c.1, ⟨c.2.1, (bx k4148).2.2⟩, reach_Before (hV.same k4148) (by simp) b c fun w55 t ht k55 => ⟨t, rfl, ?_⟩⟩
  have k4155 := k4148.trans k55 (fun _ _ h => h)
  refine Split.yes (ht.2 ((hA4 b).2 (.inr (.inl rfl)))) ⟨b.1, ⟨b.2.1, (bx k4155).2.1⟩, c.1, ⟨c.2.1, (bx k4155).2.2⟩, reach_Chain (hV.same k4155) b c fun w60 t2 ht2 k60 => ⟨t2, rfl, ?_⟩⟩
  have k4160 := k4155.trans k60 (fun _ _ h => h)
  have e2 : t2 = false := by
    cases t2 with
    | false => rfl
    | true => exact absurd (ht2.1 rfl) q2
  subst e2
  refine Split.yes rfl ⟨a.1, ⟨a.2.1, (bx k4160).1⟩, c.1, ⟨c.2.1, (bx k4160).2.2⟩, reach_Chain (hV.same k4160) a c fun w65 t3 ht3 k65 => ⟨t3, rfl, ?_⟩⟩
  rw [ht3.2 q1]
  exact hK w65 (kw41.trans (k4160.trans k65 (fun _ _ h => h)) (fun _ _ h => h))
end
end Go.Proofs.YtgfkpemnkmebkaaGreatDoor
/-
  same: both indexes say the same of who stands ahead of whom, on whose chain.
-/
namespace Go.Proofs.YtgfkpemnkmebkaaGreatDoor
open Go Go.Lite Go.RowKit

section
variable {w w' : World} {S F FR : Nat → Prop} {x r : Nat} {D : DG} {P : List Int} {m : XM} {K : Value → World → Prop}
theorem reach_Graph_ok (h : XV w F x D P m) (hK : K (.pointer (some ⟨m.g, 0, none⟩)) w) : Ret Tryz.prog reach_Index_Graph.id #[.pointer (some ⟨x, 0, none⟩)] w K :=
  reach_Index_Graph.of (Split.no rfl (Is.mk rfl ⟨_, h.c0, hK⟩))
theorem ChainL.len {h : HT} {l : List HT} (hc : ChainL D P h l) (H : Sel D P) : l.length ≤ D.length := by
  rcases hc with ⟨_, rfl⟩ | ⟨i, nd, ks, h1, _, h3, rfl⟩
  · exact Nat.zero_le _
  · have := h3.len H.par
    have := (List.getElem?_eq_some_iff.1 h1).1
    simp only [List.length_map]
    omega
theorem mem_past1 (W : WfD D) {a h : HT} : a ∈ pastsL D [h] ↔ Anc D a h := by
  unfold pastsL
  rw [mem_pick]
  constructor
  · rintro ⟨_, z, hz, e⟩
    rw [List.mem_singleton] at hz
    rwa [hz] at e
  · exact fun e => ⟨(e.mem W).1, h, by simp, e⟩
theorem sameX_ok (B : BothX w S F x FR r D P) (hD : D.length ≤ 2000) (other : HT) (hK : ∀ w', Kept Nil w w' → K (.bool true) w') :
    Ret Tryz.prog law12_same.id #[.pointer (some ⟨x, 0, none⟩), .pointer (some ⟨r, 0, none⟩), .agg other.1] w K := by
  obtain ⟨m, hV, _⟩ := B.X
  have W := hV.W
  have H := hV.sel
  have hX : ∀ {v : World}, Kept Nil w v → XV v F x D P m := fun k => hV.same k
  have hR : ∀ {v : World}, Kept Nil w v → IsR2 v FR r D P := fun k => B.R.same k
  refine law12_same.of ?_
  unfold law12_same.W
  intro w4 w5
  have k4 : Kept Nil w w4 := (Kept.refl _ _).alloc _
  have ho4 : w4.heap[w.heap.size]? = some (.cells other.1 T_api_Hash (0, 0)) := new_blk w _
  have k5 : Kept Nil w4 w5 := (Kept.refl _ _).alloc _
  have hr5 : w5.heap[w4.heap.size]? = some (.cells #[.bool false] T_bool (0, 0)) := new_blk w4 _
  clear_value w5
  have ho5 := k5.heap ho4 (fun h => h)
  have k05 := k4.trans k5 (fun _ _ h => h)
  have s4 := k4.size
  have l5 := lt_blk hr5
  clear_value w4
  refine ⟨other.1, ⟨other.2.1, Cells.blk ho5⟩, all_ok (hR k05) (by omega) other fun A8 c8 w8 row8 k8 => ⟨A8, _, c8, rfl, ?_⟩⟩
  have k08 := k05.trans k8 (fun _ _ h => h)
  have hr8 := k8.heap hr5 (fun h => h)
  have s8 := k8.size
  have hL : ∀ {v : World}, Kept Nil w8 v → HS v A8 (D.length + 1) (other :: ids D) := fun k => (HRow.hs row8).same k
  generalize hal : other :: ids D = al at row8 hL
  have hall : al.length = D.length + 1 := by rw [← hal, List.length_cons, ids_len]
  refine Holds.mark0 rfl ?_
  refine law12_same.loop1 (I := fun s v => ∃ (i : Nat) (Ms : List Nat), s = ((i : Int), marksA Ms) ∧ i ≤ D.length + 1 ∧ Kept Nil w8 v ∧ Ms.Nodup ∧ ∀ E ∈ Ms, w8.heap.size ≤ E ∧ v.heap[E]? = some (.deferred (some []))) (μ := fun s _ => (((D.length + 1 : Nat) : Int) - s.1).toNat) (s := (0, #[])) ⟨0, [], rfl, by omega, Kept.refl _ _, List.Pairwise.nil, by simp⟩ ?_
  rintro s v ⟨i, Ms, rfl, hi, kv, hnd, hMs⟩
  have k0v : Kept Nil w v := k08.trans kv (fun _ _ h => h)
  have sv := kv.size
  refine Split.dec (fun hil0 => ?_) (fun hge => ?_)
  · simp only at hil0
    have hil : i < D.length + 1 := by omega
    obtain ⟨h, hh⟩ : ∃ h, al[i]? = some h := ⟨_, List.getElem?_eq_getElem (by omega)⟩
    have hh' : al[((i : Nat) : Int).toNat]? = some h := by rw [Int.toNat_natCast]; exact hh
    intro w16
    have k16 : Kept Nil v w16 := (Kept.refl _ _).drew
    clear_value w16
    have kv16 := kv.trans k16 (fun _ _ h => h)
    refine Is.mk rfl ((hL kv16).load (i := (i : Int)) (by omega) hh' ⟨h.2.1, ?_⟩)
    intro w20
    have k20 : Kept Nil w16 w20 := (Kept.refl _ _).alloc _
    have hx20 : HS w20 (some ⟨w16.heap.size, 0, none⟩) 1 [h] := hbox w16 h
    clear_value w20
    have kv20 := kv16.trans k20 (fun _ _ h => h)
    rw [add_zero]
    refine ref_Past (hR (k08.trans kv20 (fun _ _ h => h))).gr W (by omega) hx20 (by omega) fun A22 c22 w22 row22 k22 => ⟨A22, _, c22, rfl, ?_⟩
    have kv22 := kv20.trans k22 (fun _ _ h => h)
    refine (hL kv22).load (i := (i : Int)) (by omega) hh' ?_
    refine ref12_Up (hR (k08.trans kv22 (fun _ _ h => h))) (by omega) h fun A27 c27 w27 up hup row27 k27 => ⟨A27, _, c27, rfl, ?_⟩
    have kv27 := kv22.trans k27 (fun _ _ h => h)
    have hupl := hup.len H
    have p1 := pick_len D fun a => ∃ z ∈ [h], Anc D a z
    change (pastsL D [h]).length ≤ _ at p1
    intro w29
    have hb29 : w29.heap[w27.heap.size]? = some (.cells #[.slice none 0 0] T_sl_api_Hash (0, 0)) := new_blk w27 _
    have k29 : Kept Nil w27 w29 := (Kept.refl _ _).alloc _
    clear_value w29
    refine ⟨wr_blk hb29 (by simp), ?_⟩
    intro w30
    have k30' : Kept (· = w27.heap.size) w29 w30 := Kept.setCell (S := fun k => k = w27.heap.size) (Kept.refl _ w29) (p := ⟨w27.heap.size, 0, none⟩) (fun _ => rfl) _
    have hb30 : w30.heap[w27.heap.size]? = some (.cells #[.slice A27 up.length c27] T_sl_api_Hash (0, 0)) := set_blk hb29 0 _
    clear_value w30
    have k30 : Kept Nil w27 w30 := k29.trans k30' (fun k hk e => by omega)
    have kv30 := kv27.trans k30 (fun _ _ h => h)
    have k2230 := k27.trans k30 (fun _ _ h => h)
    have hup30 : ∀ {u : World}, Kept Nil w30 u → HS u A27 up.length up := fun k => ((HRow.hs row27).same k30).same k
    have hps30 : ∀ {u : World}, Kept Nil w30 u → HS u A22 (pastsL D [h]).length (pastsL D [h]) := fun k => ((HRow.hs row22).same k2230).same k
    have s27 := k27.size
    have s30 := kv30.size
    have hbu : ∀ {u : World}, Kept Nil w30 u → u.cell? ⟨w27.heap.size, 0, none⟩ = some (.slice A27 up.length c27) := fun k => by rw [cell_blk (k.heap hb30 (fun h => h))]; rfl
    -- one by one
    refine law12_same.loop2 (I := fun s u => ∃ k : Nat, s = (k : Int) ∧ k ≤ D.length + 1 ∧ Kept Nil w30 u) (μ := fun s _ => (((D.length + 1 : Nat) : Int) - s).toNat) (s := 0) ⟨0, rfl, by omega, Kept.refl _ _⟩ ?_
    rintro s u ⟨k, rfl, hk, ku⟩
    have kvu := kv30.trans ku (fun _ _ h => h)
    have k0u := k08.trans kvu (fun _ _ h => h)
    refine Split.dec (fun hkl0 => ?_) (fun hgek => ?_)
    · have hkl : k < D.length + 1 := by omega
      obtain ⟨y, hy⟩ : ∃ y, al[k]? = some y := ⟨_, List.getElem?_eq_getElem (by omega)⟩
      have hy' : al[((k : Nat) : Int).toNat]? = some y := by rw [Int.toNat_natCast]; exact hy
      intro w62
      have k62 : Kept Nil u w62 := (Kept.refl _ _).drew
      clear_value w62
      have kv62 := kvu.trans k62 (fun _ _ h => h)
      have ku62 := ku.trans k62 (fun _ _ h => h)
      obtain ⟨a, rfl, _, hca⟩ := (hL kv62).at_ k y hy
      refine (hL kv62).load (i := (k : Int)) (by omega) hy' ((hL kv62).load (i := (i : Int)) (by omega) hh' ?_)
      refine ⟨⟨by omega, by omega⟩, Is.mk rfl ⟨y.1, ⟨y.2.1, by rw [Int.toNat_natCast]; exact hca⟩, ?_⟩⟩
      refine reach_Before (hX (k08.trans kv62 (fun _ _ h => h))) (by omega) y h fun w70 b1 hb1 k70 => ⟨b1, rfl, ⟨y.1, rfl, y.2.1, by rw [Int.toNat_natCast]; exact Cells.keep hca k70 (fun h => h)⟩, ?_⟩
      have ku70 := ku62.trans k70 (fun _ _ h => h)
      refine ref_In y (hps30 ku70) (by omega) fun w73 k73 => ⟨_, rfl, ?_⟩
      have ku73 := ku70.trans k73 (fun _ _ h => h)
      have kv73 := kv30.trans ku73 (fun _ _ h => h)
      have e1 : b1 = decide (y ∈ pastsL D [h]) := by rw [Bool.eq_iff_iff, decide_eq_true_iff, hb1, mem_past1 W]
      refine Split.no (by rw [← e1]; simp) ?_
      refine (hL kv73).load (i := (k : Int)) (by omega) hy' ((hL kv73).load (i := (i : Int)) (by omega) hh' ?_)
      refine ⟨A27, up.length, c27, hbu ku73, ⟨by omega, by omega⟩, Is.mk rfl ⟨y.1, ⟨y.2.1, by rw [Int.toNat_natCast]; exact Cells.keep hca (k70.trans k73 (fun _ _ h => h)) (fun h => h)⟩, ?_⟩⟩
      refine reach_Chain (hX (k08.trans kv73 (fun _ _ h => h))) y h fun w84 b2 hb2 k84 => ⟨b2, rfl, ⟨y.1, rfl, y.2.1, by rw [Int.toNat_natCast]; exact Cells.keep hca ((k70.trans k73 (fun _ _ h => h)).trans k84 (fun _ _ h => h)) (fun h => h)⟩, hbu (ku73.trans k84 (fun _ _ h => h)), ?_⟩
      have ku84 := ku73.trans k84 (fun _ _ h => h)
      refine ref_In y (hup30 ku84) (by omega) fun w87 k87 => ⟨_, rfl, ?_⟩
      have e2 : b2 = decide (y ∈ up) := by rw [Bool.eq_iff_iff, decide_eq_true_iff, hb2, hup.mem W H]
      refine Split.no (by rw [← e2]; simp) ?_
      rw [wrapP (n := (k : Int)) (by omega) (by omega)]
      exact ⟨(k : Int) + 1, rfl, ⟨k + 1, rfl, hkl, ku84.trans k87 (fun _ _ h => h)⟩, by simp only; omega⟩
    · rw [roundQ_exit]
      rw [law12_same.x2_2]
      unfold law12_same.X2_2
      refine (hL kvu).load (i := (i : Int)) (by omega) hh' ?_
      refine reach_Up_ok h fun w102 pb qb k102 hp102 hq102 hpb hqb => ⟨_, rfl, .inr ⟨_, _, _, rfl⟩, Split.no rfl ?_⟩
      have kv102 := kvu.trans k102 (fun _ _ h => h)
      have ku102 := ku.trans k102 (fun _ _ h => h)
      intro w105
      have hi105 : w105.heap[w102.heap.size]? = some (.cells #[.int .i64 0] T_int (0, 0)) := new_blk w102 _
      have k105 : Kept Nil w102 w105 := (Kept.refl _ _).alloc _
      clear_value w105
      refine ⟨wr_blk hi105 (by simp), ?_⟩
      intro w106
      have k106' : Kept (· = w102.heap.size) w105 w106 := Kept.setCell (S := fun k => k = w102.heap.size) (Kept.refl _ w105) (p := ⟨w102.heap.size, 0, none⟩) (fun _ => rfl) _
      have hi106 : w106.heap[w102.heap.size]? = some (.cells #[.int .i64 0] T_int (0, 0)) := set_blk hi105 0 _
      clear_value w106
      have k106 : Kept Nil w102 w106 := k105.trans k106' (fun k hk e => by omega)
      have hp106 := k106.heap hp102 (fun h => h)
      have hq106 := k106.heap hq102 (fun h => h)
      have kv106 := kv102.trans k106 (fun _ _ h => h)
      have ku106 := ku102.trans k106 (fun _ _ h => h)
      have s106 := lt_blk hi106
      have s102 := kv102.size
      have su102 := ku102.size
      have lp := lt_blk hp102
      have lq := lt_blk hq102
      have lb30 := lt_blk hb30
      let fnv : Value := .func (.func reach_Index_Up_fn1.id) #[] #[.pointer (some ⟨pb, 0, none⟩), .pointer (some ⟨qb, 0, none⟩)]
      let ρ0 : Env := [(0, .pointer (some ⟨x, 0, none⟩)), (1, .pointer (some ⟨r, 0, none⟩)), (6, .pointer (some ⟨w4.heap.size, 0, none⟩)), (7, .slice A8 (D.length + 1) c8), (8, .int .i64 (i : Int)), (10, .pointer (some ⟨w27.heap.size, 0, none⟩)), (13, .pointer (some ⟨w102.heap.size, 0, none⟩)), (89, fnv)]
      let J : Nat → World → Prop := fun j u => u.heap[w102.heap.size]? = some (.cells #[.int .i64 (j : Int)] T_int (0, 0)) ∧ Kept (· = w102.heap.size) w106 u ∧ j ≤ up.length
      have kJ : ∀ {u : World}, Kept (· = w102.heap.size) w106 u → Kept Nil w102 u := fun k => k106.trans k (fun k hk e => by omega)
      have k0J : ∀ {u : World}, Kept (· = w102.heap.size) w106 u → Kept Nil w u := fun k => k08.trans (kv102.trans (kJ k) (fun _ _ h => h)) (fun _ _ h => h)
      change Holds none [] Tryz.prog _ _ _ (ρ0 ++ [(dkey, .agg (marksA Ms))]) w106
      refine range_iter (n := 124) (ρ := ρ0 ++ [(dkey, .agg (marksA Ms))]) (ρ0 := ρ0) ng mix law12_same.k (t := 89) (ps := #[90]) (by kernel_rfl) (by decide) rfl reach_Index_Up_fn1.at_ rfl (.inr ⟨_, rfl⟩) (fun i x hi hx => (find_snoc (ρ := ρ0) (.agg (marksA Ms)) hi).trans hx) rfl encH up (fun _ => rfl) (fun q hq => by
          have e49 : q = 90 := by simpa using hq
          subst e49
          exact ⟨by decide, by decide⟩) (up_iter (F := F) (x := x) (m := m) (pb := pb) (qb := qb) hup (by omega)) J (fun _ _ => False) ?_ (fun _ _ _ _ _ h => h.elim) (fun j u h => ⟨hX (k0J h.2.1), (kJ h.2.1).heap hp102 (fun h => h), (kJ h.2.1).heap hq102 (fun h => h)⟩) ?_ ?_ ?_ (fun _ _ h => h.elim) (fun _ _ _ h => h.elim)
      · rintro j u1 u2 R hlv ⟨h1, h2, h3⟩ hk'
        exact ⟨hk'.heap h1 (ne_loop h1 hlv.loop), h2.trans hk' (fun k hk e => by omega), h3⟩
      · intro R
        exact ⟨old_blk (old_blk hi106 _) _, (((Kept.refl _ _).alloc _).alloc _), Nat.zero_le _⟩
      · rintro j z u1 R hz ⟨h1, h2, h3⟩ hlv
        have e7 : putAll ρ0 ((#[90] : Array Nat).toList.zip (encH z)) = [(0, .pointer (some ⟨x, 0, none⟩)), (1, .pointer (some ⟨r, 0, none⟩)), (6, .pointer (some ⟨w4.heap.size, 0, none⟩)), (7, .slice A8 (D.length + 1) c8), (8, .int .i64 (i : Int)), (10, .pointer (some ⟨w27.heap.size, 0, none⟩)), (13, .pointer (some ⟨w102.heap.size, 0, none⟩)), (89, fnv), (90, .agg z.1)] := rfl
        rw [e7, law12_same.a1]
        have hjl := (List.getElem?_eq_some_iff.1 hz).1
        unfold law12_same.A1
        intro w117
        obtain ⟨hwr, hbx, hkx⟩ := box_set (w := u1) (z := hnull.1) (cs := z.1) (t := T_api_Hash) (by rw [z.2.1]; rfl)
        refine ⟨⟨z.2.1, z.2.one, fun j hj => hwr j (by rw [z.2.1]; exact hj)⟩, ?_⟩
        intro w120
        replace hbx : w120.heap[u1.heap.size]? = some (.cells z.1 T_api_Hash (0, 0)) := hbx
        replace hkx : Kept Nil u1 w120 := hkx
        clear_value w120
        have hl88 := hlv.keep hkx (fun h => h) (fun h => h)
        refine ⟨hl88, fun w2 R2 hk2 hl2 => ?_⟩
        have hb2 := hk2.heap hbx (ne_loop hbx hl88.loop)
        have h188 := hkx.heap h1 (fun h => h)
        have h12 := hk2.heap h188 (ne_loop h188 hl88.loop)
        have h22 : Kept (· = w102.heap.size) w106 w2 := (h2.trans hkx (fun _ _ h => h.elim)).trans hk2 (fun k hk e => by omega)
        rw [law12_same.y1]
        unfold law12_same.Y1
        intro w125
        have k125 : Kept Nil w2 w125 := (Kept.refl _ _).drew
        clear_value w125
        have h193 := k125.heap h12 (fun h => h)
        have hb93 := k125.heap hb2 (fun h => h)
        have h293 := h22.trans k125 (fun _ _ h => h.elim)
        have hl93 := hl2.keep k125 (fun h => h) (fun h => h)
        have ku125 : Kept Nil w30 w125 := ku102.trans (kJ h293) (fun _ _ h => h)
        refine ⟨(j : Int), by rw [cell_blk h193]; rfl, A27, up.length, c27, hbu ku125, Split.no (decide_eq_false (by omega)) ⟨z.1, ⟨z.2.1, Cells.blk hb93⟩, A27, up.length, c27, hbu ku125, (j : Int), by rw [cell_blk h193]; rfl, ?_⟩⟩
        refine (hup30 ku125).load (i := (j : Int)) (by omega) (by rw [Int.toNat_natCast]; exact hz) ⟨⟨z.2.ints, z.2.ints⟩, ?_⟩
        rw [sameInts_eq]
        refine Split.no (by rw [decide_eq_true rfl]; rfl) ⟨(j : Int), by rw [cell_blk h193]; rfl, wr_blk h193 (by simp), ?_⟩
        intro w136
        have hi108 : w136.heap[w102.heap.size]? = some (.cells #[.int .i64 ((j + 1 : Nat) : Int)] T_int (0, 0)) := by
          show (w125.setCell ⟨w102.heap.size, 0, none⟩ (.int .i64 (IntKind.i64.wrap ((j : Int) + (1 : Int))))).heap[w102.heap.size]? = _
          rw [wrapP (n := (j : Int)) (by omega) (by omega), set_blk h193 0]
          rfl
        have k108 : Kept (· = w102.heap.size) w125 w136 := by
          show Kept (· = w102.heap.size) w125 (w125.setCell ⟨w102.heap.size, 0, none⟩ (.int .i64 (IntKind.i64.wrap ((j : Int) + (1 : Int)))))
          exact Kept.setCell (S := fun k => k = w102.heap.size) (Kept.refl _ w125) (p := ⟨w102.heap.size, 0, none⟩) (fun _ => rfl) _
        clear_value w136
        exact ⟨hl93.keep k108 (ne_loop h193 hl93.loop).symm (ne_mark h193 hl93.mark).symm, hi108, h293.trans k108 (fun _ _ h => h), hjl⟩
      · rintro u1 R ⟨h1, h2, h3⟩ hlv
        have e7 : addMark (ρ0 ++ [(dkey, .agg (marksA Ms))]) w106.heap.size = [(0, .pointer (some ⟨x, 0, none⟩)), (1, .pointer (some ⟨r, 0, none⟩)), (6, .pointer (some ⟨w4.heap.size, 0, none⟩)), (7, .slice A8 (D.length + 1) c8), (8, .int .i64 (i : Int)), (10, .pointer (some ⟨w27.heap.size, 0, none⟩)), (13, .pointer (some ⟨w102.heap.size, 0, none⟩)), (89, fnv), (4294967296, .agg (marksA (w106.heap.size :: Ms)))] := rfl
        rw [e7, law12_same.z1_normal _ _ _ _ _ _ _ _ _ _ #[]]
        unfold law12_same.Z1_normal
        have ku1 : Kept Nil w30 u1 := ku102.trans (kJ h2) (fun _ _ h => h)
        refine ⟨((up.length : Nat) : Int), by rw [cell_blk h1]; rfl, A27, up.length, c27, hbu ku1, Split.no (by simp) ?_⟩
        rw [wrapP (n := (i : Int)) (by omega) (by omega)]
        have kvu1 : Kept Nil v u1 := by
          have : Kept Nil v w30 := ((((k16.trans k20 (fun _ _ h => h)).trans k22 (fun _ _ h => h)).trans k27 (fun _ _ h => h)).trans k30 (fun _ _ h => h))
          exact this.trans ku1 (fun _ _ h => h)
        refine ⟨((i : Int) + 1, marksA (w106.heap.size :: Ms)), rfl, ⟨i + 1, w106.heap.size :: Ms, rfl, by omega, kv.trans kvu1 (fun _ _ h => h), ?_, fun E hE => ?_⟩, by simp only; omega⟩
        · rw [List.nodup_cons]
          refine ⟨fun hE => ?_, hnd⟩
          have h1 := lt_blk (hMs _ hE).2
          have h2 : v.heap.size ≤ w30.heap.size := ((((k16.trans k20 (fun _ _ h => h)).trans k22 (fun _ _ h => h)).trans k27 (fun _ _ h => h)).trans k30 (fun _ _ h => h)).size
          have h3 := ku106.size
          omega
        · rcases List.mem_cons.1 hE with rfl | hE
          · exact ⟨by have := kv106.size; omega, hlv.mark⟩
          · exact ⟨(hMs E hE).1, kvu1.heap (hMs E hE).2 (fun h => h)⟩
  · simp only at hge
    rw [roundQ_exit, law12_same.x1_0]
    unfold law12_same.X1_0
    intro w37
    have k37 : Kept Nil v w37 := (Kept.refl _ _).drew
    clear_value w37
    have k037 := k0v.trans k37 (fun _ _ h => h)
    refine reach_Graph_ok (hX k037) ⟨_, rfl, Split.yes rfl ?_⟩
    obtain ⟨A0, n0, c0, hc0, rfl, hns⟩ := (hR k037).go (k := fun A c => True) (fun _ _ _ => trivial)
    refine Is.mk rfl ⟨A0, D.length, c0, hc0, reach_Graph_ok (hX k037) ⟨_, rfl, hc0, ?_⟩⟩
    obtain ⟨bl, c, mb, M, G⟩ := (hX k037).G
    have hr37 := (kv.trans k37 (fun _ _ h => h)).heap hr8 (fun h => h)
    refine dag_Len G ⟨_, rfl, hc0, wr_blk hr37 (by simp), ?_⟩
    intro w49
    have k49 : Kept (· = w4.heap.size) w37 w49 := Kept.setCell (S := fun k => k = w4.heap.size) (Kept.refl _ w37) (p := ⟨w4.heap.size, 0, none⟩) (fun _ => rfl) _
    have hr49 : w49.heap[w4.heap.size]? = some (.cells #[.bool true] T_bool (0, 0)) := by
      show (w37.setCell ⟨w4.heap.size, 0, none⟩ (.bool ((D.length : Int) == (D.length : Int)))).heap[w4.heap.size]? = _
      rw [set_blk hr37 0]
      simp
    clear_value w49
    rw [marksOf_A]
    have hm49 : ∀ E ∈ Ms, w49.heap[E]? = some (.deferred (some [])) := fun E hE => k49.heap (k37.heap (hMs E hE).2 (fun h => h)) (by have := (hMs E hE).1; omega)
    have kt := takeAll_kept Ms w49
    have hrt := kt.heap hr49 (fun hE => by have := (hMs _ hE).1; omega)
    refine ⟨marksOk_of Ms w49 hnd hm49, true, by rw [cell_blk hrt]; rfl, hK _ ?_⟩
    have s08 := k08.size
    exact (k037.trans k49 (fun k hk e => by omega)).trans kt (fun k hk hE => by have := (hMs k hE).1; omega)
end
end Go.Proofs.YtgfkpemnkmebkaaGreatDoor
/-
  A loop over a map from hashes: whichever comes next.
-/
namespace Go.Proofs.YtgfkpemnkmebkaaGreatDoor
open Go Go.Lite Go.RowKit
open Go.ChangeMaps (setBlock)

theorem assoc_get {x : HT} {v : Value} : ∀ {l : List (HT × Value)} {j : Nat}, (l.map (·.1)).Nodup → l[j]? = some (x, v) → assoc x l = some v
  | [], _, _, h => by simp at h
  | (y, u) :: l, 0, _, h => by
    simp at h
    obtain ⟨rfl, rfl⟩ := h
    unfold assoc
    rw [if_pos rfl]
  | (y, u) :: l, j + 1, hn, h => by
    simp only [List.map_cons, List.nodup_cons] at hn
    have hm : x ∈ l.map (·.1) := List.mem_map.2 ⟨(x, v), List.mem_of_getElem? (i := j) (by simpa using h), rfl⟩
    unfold assoc
    rw [if_neg (fun e : x = y => hn.1 (by rw [← e]; exact hm))]
    exact assoc_get hn.2 (j := j) (by simpa using h)
theorem assoc_mem {x : HT} {v : Value} : ∀ {l : List (HT × Value)}, assoc x l = some v → ∃ j : Nat, l[j]? = some (x, v)
  | [], h => by simp [assoc] at h
  | (y, u) :: l, h => by
    unfold assoc at h
    split at h
    · rename_i e
      subst e
      cases h
      exact ⟨0, rfl⟩
    · obtain ⟨j, hj⟩ := assoc_mem h
      exact ⟨j + 1, by simpa using hj⟩
theorem Entv.of {es : List MapEntry} {l : List (HT × Value)} (h : Entv es l) {j : Nat} {e : MapEntry} (he : es[j]? = some e) : ∃ p, l[j]? = some p ∧ e.key = .agg p.1.1 ∧ e.val = p.2 := by
  have hlen := h.len
  have hj := (List.getElem?_eq_some_iff.1 he).1
  obtain ⟨p, hp⟩ : ∃ p, l[j]? = some p := ⟨_, List.getElem?_eq_getElem (by omega)⟩
  obtain ⟨e', g1, g2, g3⟩ := h.get hp
  rw [he] at g1
  cases g1
  exact ⟨p, hp, g2, g3⟩
theorem agg_inj {x y : HT} (h : (Value.agg x.1 : Value) = .agg y.1) : x = y := by
  cases h' : x
  cases h'' : y
  simp_all
/-- the loop over map m by the iterator in block it; left: who is still to come -/
structure MapIt (w : World) (m it : Nat) (f : HT → Option Value) (left : HT → Prop) (cnt : Nat) : Prop where
  ne : it ≠ m
  ex : ∃ es clock l since seen c0, w.heap[m]? = some (.map es clock) ∧ Entv es.toList l ∧ (∀ x, assoc x l = f x) ∧ (es.toList.map (·.born)).Nodup ∧ (l.map (·.1)).Nodup ∧
    w.heap[it]? = some (.mapIter (some m) since seen c0) ∧ (∀ e ∈ es.toList, e.born < since) ∧ since ≤ c0 ∧ since ≤ clock ∧ (leftOf es seen).size = cnt ∧ ∀ x, left x ↔ ∃ e ∈ es.toList, e.key = .agg x.1 ∧ seen.contains e.born = false
section
variable {w w' : World} {m it : Nat} {f : HT → Option Value} {left : HT → Prop} {cnt : Nat}
theorem MapIt.keep {S : Nat → Prop} (h : MapIt w m it f left cnt) (hk : Kept S w w') (h1 : ¬ S m) (h2 : ¬ S it) : MapIt w' m it f left cnt := by
  obtain ⟨es, clock, l, since, seen, c0, g1, g2, g3, g4, g5, g6, g7⟩ := h.ex
  exact ⟨h.ne, es, clock, l, since, seen, c0, hk.heap g1 h1, g2, g3, g4, g5, hk.heap g6 h2, g7⟩
theorem MapIt.left_eq (h : MapIt w m it f left cnt) : w.rangeLeft m it = cnt := by
  obtain ⟨es, clock, l, since, seen, c0, g1, g2, g3, g4, g5, g6, g7, _, _, g8, _⟩ := h.ex
  simp only [World.rangeLeft, g1, g6]
  exact g8
theorem MapIt.lt (h : MapIt w m it f left cnt) : it < w.heap.size := by
  obtain ⟨es, clock, l, since, seen, c0, g1, g2, g3, g4, g5, g6, _⟩ := h.ex
  exact lt_blk g6
/-- range m -/
theorem MapF.range {mt te : TypeId} {z : Value} (T : MapT mt te z) (h : MapF w m f) : ∃ w' cnt, (Instr.range mt (.map (some m))).run Tryz.prog w = .ok (.pointer (some ⟨w.heap.size, 0, none⟩)) w' ∧ MapIt w' m w.heap.size f (fun x => f x ≠ none) cnt ∧ Kept Nil w w' := by
  obtain ⟨es, clock, l, g1, g2, g3, g4, g5, g6⟩ := h.ex
  have hlt := h.lt
  refine ⟨w.alloc (.mapIter (some m) clock #[] clock), _, run_range_map w mt T_api_Hash te m es clock T.und g1, ⟨by omega, es, clock, l, clock, #[], clock, old_blk g1 _, g2, g3, g5, g6, new_blk w _, g4, Nat.le_refl _, Nat.le_refl _, rfl, fun x => ?_⟩, (Kept.refl _ _).alloc _⟩
  rw [← g3]
  constructor
  · intro hx
    cases ha : assoc x l with
    | none => exact absurd ha hx
    | some v =>
      obtain ⟨j, hj⟩ := assoc_mem ha
      obtain ⟨e, he, hk, _⟩ := g2.get hj
      exact ⟨e, List.mem_of_getElem? he, hk, by simp⟩
  · rintro ⟨e, he, hk, _⟩
    obtain ⟨j, hj⟩ := List.mem_iff_getElem?.1 he
    obtain ⟨⟨y, v⟩, hp, hk2, _⟩ := g2.of hj
    have : y = x := agg_inj (hk2.symm.trans hk)
    subst this
    rw [assoc_get g6 hp]
    simp
/-- one more, or none -/
theorem MapIt.next (h : MapIt w m it f left cnt) (ty : TypeId) :
    (cnt = 0 ∧ (∀ x, ¬ left x) ∧ (Instr.next (.pointer (some ⟨it, 0, none⟩)) false ty).run Tryz.prog w = .ok (.tuple #[.bool false]) w) ∨
    ∃ (x : HT) (v : Value) (w' : World) (cnt' : Nat), left x ∧ f x = some v ∧ (Instr.next (.pointer (some ⟨it, 0, none⟩)) false ty).run Tryz.prog w = .ok (.tuple #[.bool true, .agg x.1, v]) w' ∧
      (Instr.entry (.pointer (some ⟨it, 0, none⟩))).run Tryz.prog w' = .ok (.tuple #[.agg x.1, v]) w' ∧ MapIt w' m it f (fun y => left y ∧ y ≠ x) cnt' ∧ cnt' < cnt ∧ Kept (· = it) w w' := by
  have hne := h.ne
  obtain ⟨es, clock, l, since, seen, c0, g1, g2, g3, g4, g5, g6, g7, g8, g8', rfl, g9⟩ := h.ex
  rcases run_next_at (P := Tryz.prog) w ty it m since c0 seen es clock g6 g1 g7 g8 with ⟨h0, hr⟩ | ⟨e, he, w1, hw1, hr⟩
  · refine .inl ⟨h0, fun x hx => ?_, hr⟩
    obtain ⟨e, he, _, hs⟩ := (g9 x).1 hx
    have hm : e ∈ leftOf es seen := by
      unfold leftOf
      rw [Array.mem_filter]
      exact ⟨by simpa using he, by rw [hs]; rfl⟩
    have := Array.size_pos_of_mem hm
    omega
  · obtain ⟨hem, hes⟩ := mem_left he
    obtain ⟨j, hj⟩ := List.mem_iff_getElem?.1 hem
    obtain ⟨⟨x, v⟩, hp, hk, hv⟩ := g2.of hj
    have hk : e.key = .agg x.1 := hk
    have hv : e.val = v := hv
    rw [hk, hv] at hr
    have hit1 : w1.heap[it]? = some (.mapIter (some m) since seen c0) := by rcases hw1 with rfl | rfl <;> exact g6
    have hm1 : w1.heap[m]? = some (.map es clock) := by rcases hw1 with rfl | rfl <;> exact g1
    have hset : (setBlock w1 it (.mapIter (some m) since (seen.push e.born) clock)).heap[it]? = some (.mapIter (some m) since (seen.push e.born) clock) := by
      have := lt_blk hit1
      simp [setBlock, this]
    have hoth : (setBlock w1 it (.mapIter (some m) since (seen.push e.born) clock)).heap[m]? = some (.map es clock) := by
      simp [setBlock, hne, hm1]
    have hkept : Kept (· = it) w (setBlock w1 it (.mapIter (some m) since (seen.push e.born) clock)) := by
      have hd : w.drew.heap = w.heap := rfl
      rcases hw1 with rfl | rfl
      · exact ⟨rfl, rfl, rfl, by simp [setBlock], fun k _ hk => by simp [setBlock, Ne.symm hk]⟩
      · exact ⟨rfl, rfl, rfl, by simp [setBlock, hd], fun k _ hk => by simp [setBlock, hd, Ne.symm hk]⟩
    refine .inr ⟨x, v, _, _, (g9 x).2 ⟨e, hem, hk, hes⟩, by rw [← g3]; exact assoc_get g5 hp, hr, ?_, ⟨hne, es, clock, l, since, seen.push e.born, clock, hoth, g2, g3, g4, g5, hset, g7, g8', g8', rfl, fun y => ?_⟩, left_shrinks es seen e he, hkept⟩
    · have := run_entry_at (P := Tryz.prog) _ it m since seen es clock e hset hoth hem g4
      rw [hk, hv] at this
      exact this
    · have born_eq : ∀ {e' : MapEntry}, e' ∈ es.toList → e'.born = e.born → e' = e := fun {e'} he' hb => by
        obtain ⟨j', hj'⟩ := List.mem_iff_getElem?.1 he'
        have h1 : (es.toList.map (·.born))[j']? = some e'.born := by rw [List.getElem?_map, hj']; rfl
        have h2 : (es.toList.map (·.born))[j]? = some e.born := by rw [List.getElem?_map, hj]; rfl
        rw [hb] at h1
        have g1 := List.getElem?_eq_some_iff.1 h1
        have g2 := List.getElem?_eq_some_iff.1 h2
        have : j' = j := (List.getElem_inj g4).1 (g1.2.trans g2.2.symm)
        subst this
        rw [hj] at hj'
        cases hj'
        rfl
      rw [g9]
      constructor
      · rintro ⟨⟨e', he', hk', hs'⟩, hne'⟩
        refine ⟨e', he', hk', ?_⟩
        rw [contains_push, hs', Bool.false_or, beq_eq_false_iff_ne]
        intro hb
        have := born_eq he' hb
        subst this
        exact hne' (agg_inj (hk'.symm.trans hk))
      · rintro ⟨e', he', hk', hs'⟩
        rw [contains_push, Bool.or_eq_false_iff] at hs'
        refine ⟨⟨e', he', hk', hs'.1⟩, fun hyx => ?_⟩
        subst hyx
        obtain ⟨j', hj'⟩ := List.mem_iff_getElem?.1 he'
        obtain ⟨⟨y', v'⟩, hp', hk2, _⟩ := g2.of hj'
        have e1 : y' = y := agg_inj (hk2.symm.trans hk')
        subst e1
        have h1 : (l.map (·.1))[j']? = some y' := by rw [List.getElem?_map, hp']; rfl
        have h2 : (l.map (·.1))[j]? = some y' := by rw [List.getElem?_map, hp]; rfl
        have g1 := List.getElem?_eq_some_iff.1 h1
        have g2 := List.getElem?_eq_some_iff.1 h2
        have : j' = j := (List.getElem_inj g5).1 (g1.2.trans g2.2.symm)
        subst this
        rw [hj] at hj'
        cases hj'
        simp at hs'
end
end Go.Proofs.YtgfkpemnkmebkaaGreatDoor
/-
  Copy of the index.
-/
namespace Go.Proofs.YtgfkpemnkmebkaaGreatDoor
open Go Go.Lite Go.RowKit

/-- a copy in the making; own: whose a block is -/
structure CN (w v : World) (F : Nat → Prop) (D : DG) (T : List Tr.Nd) (d : Int) (own : Nat → Nat) (G T' E : Option Nat) (I : Option (Option Addr × Nat)) (Z : Option Nat) : Prop where
  kp : Kept Nil w v
  gr : ∀ g, G = some g → ∃ SG, IsG v SG F g D ∧ ∀ k, SG k → w.heap.size ≤ k ∧ k < v.heap.size ∧ own k = 1
  tr : ∀ t, T' = some t → ∃ ST, Tr.IsT v ST t T d ∧ ∀ k, ST k → w.heap.size ≤ k ∧ k < v.heap.size ∧ own k = 2
  mp : ∀ b, E = some b → w.heap.size ≤ b ∧ own b = 3 ∧ IsMap v b (ids D)
  il : ∀ A c, I = some (A, c) → HRow v w.heap.size A D.length c (ids D) ∧ ∀ k, blkOf A = some k → own k = 4
  cv : ∀ b, Z = some b → w.heap.size ≤ b ∧ own b = 5 ∧ MapF v b (fun _ => none)
section
variable {w v v' : World} {F : Nat → Prop} {D : DG} {P : List Int} {T : List Tr.Nd} {d : Int} {own : Nat → Nat} {G T' E : Option Nat} {I : Option (Option Addr × Nat)} {Z : Option Nat} {x : Nat} {m : XM} {K : Value → World → Prop}
theorem CN.grow (h : CN w v F D T d own G T' E I Z) (t : Nat) (k : Kept Nil v v') : CN w v' F D T d (tag v.heap.size t own) G T' E I Z := by
  have hs := k.size
  refine ⟨h.kp.trans k (fun _ _ h => h), fun g e => ?_, fun g e => ?_, fun b e => ?_, fun A c e => ?_, fun b e => ?_⟩
  · obtain ⟨SG, h1, h2⟩ := h.gr g e
    exact ⟨SG, h1.same k, fun q hq => ⟨(h2 q hq).1, by have := (h2 q hq).2.1; omega, by rw [tag_old (h2 q hq).2.1]; exact (h2 q hq).2.2⟩⟩
  · obtain ⟨ST, h1, h2⟩ := h.tr g e
    exact ⟨ST, h1.same k, fun q hq => ⟨(h2 q hq).1, by have := (h2 q hq).2.1; omega, by rw [tag_old (h2 q hq).2.1]; exact (h2 q hq).2.2⟩⟩
  · obtain ⟨h1, h2, h3⟩ := h.mp b e
    exact ⟨h1, by rw [tag_old h3.lt]; exact h2, h3.keep k (fun h => h)⟩
  · obtain ⟨h1, h2⟩ := h.il A c e
    refine ⟨Row.keep h1 k (fun _ _ h => h), fun q hq => ?_⟩
    obtain ⟨_, cur, hc⟩ := Row.blk h1 hq
    rw [tag_old (lt_blk hc)]
    exact h2 q hq
  · obtain ⟨h1, h2, h3⟩ := h.cv b e
    exact ⟨h1, by rw [tag_old h3.lt]; exact h2, h3.keep k (fun h => h)⟩
theorem CN.addG (h : CN w v F D T d own none T' E I Z) {gb : Nat} (hG : IsG v' (fun k => v.heap.size ≤ k ∧ k < v'.heap.size) F gb D) (k : Kept Nil v v') : CN w v' F D T d (tag v.heap.size 1 own) (some gb) T' E I Z := by
  have g := h.grow 1 k
  refine ⟨g.kp, ?_, g.tr, g.mp, g.il, g.cv⟩
  intro g' e
  cases e
  have := h.kp.size
  exact ⟨_, hG, fun q hq => ⟨by omega, hq.2, tag_new hq.1⟩⟩
theorem CN.addT (h : CN w v F D T d own G none E I Z) {t : Nat} (hT : Tr.IsT v' (fun k => v.heap.size ≤ k) t T d) (k : Kept Nil v v') : CN w v' F D T d (tag v.heap.size 2 own) G (some t) E I Z := by
  have g := h.grow 2 k
  refine ⟨g.kp, g.gr, ?_, g.mp, g.il, g.cv⟩
  intro t' e
  cases e
  have := h.kp.size
  exact ⟨_, IsT_bound hT, fun q hq => ⟨by omega, hq.2, tag_new hq.1⟩⟩
theorem CN.addE (h : CN w v F D T d own G T' none I Z) {es : Array MapEntry} {cl : Nat} (he : Ents es.toList (ids D) 0) : CN w (v.alloc (.map es cl)) F D T d (tag v.heap.size 3 own) G T' (some v.heap.size) I Z := by
  have g := h.grow 3 ((Kept.refl Nil v).alloc (.map es cl))
  refine ⟨g.kp, g.gr, g.tr, ?_, g.il, g.cv⟩
  intro b e
  cases e
  exact ⟨h.kp.size, tag_new (Nat.le_refl _), ⟨es, cl, new_blk v _, he⟩⟩
theorem CN.addI (h : CN w v F D T d own G T' E none Z) {A : Option Addr} {c : Nat} (hr : HRow v' v.heap.size A D.length c (ids D)) (k : Kept Nil v v') : CN w v' F D T d (tag v.heap.size 4 own) G T' E (some (A, c)) Z := by
  have g := h.grow 4 k
  refine ⟨g.kp, g.gr, g.tr, g.mp, ?_, g.cv⟩
  intro A' c' e
  cases e
  have := h.kp.size
  exact ⟨Row.base hr (fun b hb => Nat.le_trans this (Row.blk hr hb).1), fun k hk => tag_new (Row.blk hr hk).1⟩
theorem CN.addZ (h : CN w v F D T d own G T' E I none) : CN w (v.alloc (.map #[] 0)) F D T d (tag v.heap.size 5 own) G T' E I (some v.heap.size) := by
  have g := h.grow 5 ((Kept.refl Nil v).alloc (.map #[] 0))
  refine ⟨g.kp, g.gr, g.tr, g.mp, g.il, ?_⟩
  intro b e
  cases e
  exact ⟨h.kp.size, tag_new (Nat.le_refl _), MapF.new v⟩
/-- the copy, when its covers are laid -/
theorem CN.fin {u : World} {g t mb ib ic cb ob : Nat} (h : XV w F x D P m) (N : CN w v F D m.T m.d own (some g) (some t) (some mb) (some (some ⟨ib, 0, none⟩, ic)) (some cb)) (ho : ob = v.heap.size)
    (htop : u.heap[ob]? = some (.cells #[.pointer (some ⟨g, 0, none⟩), .pointer (some ⟨t, 0, none⟩), .map (some mb), .slice (some ⟨ib, 0, none⟩) D.length ic, .map (some cb)] T_reach_Index (0, 0)))
    (ku : Kept (· = cb) v u) (hcv : ∃ f, MapF u cb f ∧ ∀ y, ∃ l, CovAt u (fun k => ob < k ∧ k < u.heap.size) D.length (f y) l ∧ ∀ c, c ∈ l ↔ Cov D P y c) :
    IsX u (fun k => w.heap.size ≤ k ∧ k < u.heap.size) F ob D P := by
  obtain ⟨SG, hG, gG⟩ := N.gr g rfl
  obtain ⟨ST, hT, gT⟩ := N.tr t rfl
  obtain ⟨m1, m2, m3⟩ := N.mp mb rfl
  obtain ⟨i1, i2⟩ := N.il _ ic rfl
  obtain ⟨c1, c2, c3⟩ := N.cv cb rfl
  have hi2 := i2 ib rfl
  obtain ⟨hib, cur, hcur⟩ := Row.blk i1 (k := ib) rfl
  have lib := lt_blk hcur
  have sw := N.kp.size
  have su := ku.size
  have lm := m3.lt
  have lc := c3.lt
  have lo := lt_blk htop
  have nF : ∀ k, F k → k < w.heap.size := fun k e => h.low k (.inr e)
  have e1 : mb ≠ cb := fun e => by rw [e] at m2; omega
  have e2 : ib ≠ cb := fun e => by rw [e] at hi2; omega
  have e3 : mb ≠ ib := fun e => by rw [e] at m2; omega
  refine ⟨⟨g, t, mb, ib, ic, cb, m.T, m.d, SG, ST, fun k => ob < k ∧ k < u.heap.size⟩, ⟨htop, hG.keep ku (fun k e e' => by have := (gG k e).2.2; rw [e', c2] at this; omega) (fun k e e' => by have := nF k e; omega), hT.keep ku (fun k e e' => by have := (gT k e).2.2; rw [e', c2] at this; omega), h.fine, h.pars, h.dl, m3.keep ku e1, ?_, hcv, h.sel, h.W, ?_, ?_, ?_, ?_, ?_, ?_⟩, ?_⟩
  · exact Row.base (Row.keep i1 ku (fun k e e' => by cases e; exact e2 e')) (fun _ _ => Nat.zero_le _)
  · exact fun k e => ⟨fun e' => by have := (gG k e).2.2; have := (gT k e').2.2; omega, fun e' => by have := (gG k e).2.1; omega⟩
  · exact fun k e e' => by have := (gT k e).2.1; omega
  · exact fun k e => ⟨fun e' => by have := nF k e; have := (gT k e').1; omega, fun e' => by have := nF k e; omega⟩
  · intro k e
    have key : k = ob ∨ (3 ≤ own k ∧ k < ob ∧ w.heap.size ≤ k) := by
      rcases e with e | e | e | e
      · exact .inl e
      · exact .inr (by have e : k = mb := e; rw [e]; omega)
      · exact .inr (by have e : k = ib := e; rw [e]; omega)
      · exact .inr (by have e : k = cb := e; rw [e]; omega)
    refine ⟨fun e' => ?_, fun e' => ?_, fun e' => ?_, fun e' => ?_⟩
    · have h1 := gG k e'; omega
    · have h1 := gT k e'; omega
    · omega
    · have := nF k e'; omega
  · exact ⟨by show ob ≠ mb; omega, by show ob ≠ ib; omega, by show ob ≠ cb; omega, e3, e1, e2⟩
  · intro k e
    rcases e with e | e
    · rcases e with e | e | e | e
      · have := (gG k e).2.1; omega
      · have := (gT k e).2.1; omega
      · exact e.2
      · rcases e with e | e | e | e
        · have e : k = ob := e; omega
        · have e : k = mb := e; omega
        · have e : k = ib := e; omega
        · have e : k = cb := e; omega
    · have := nF k e; omega
  · intro k e
    rcases e with e | e | e | e
    · have := gG k e; exact ⟨this.1, by omega⟩
    · have := gT k e; exact ⟨this.1, by omega⟩
    · have e : ob < k ∧ k < u.heap.size := e; exact ⟨by omega, e.2⟩
    · rcases e with e | e | e | e
      · have e : k = ob := e; exact ⟨by omega, by omega⟩
      · have e : k = mb := e; exact ⟨by omega, by omega⟩
      · have e : k = ib := e; exact ⟨by omega, by omega⟩
      · have e : k = cb := e; exact ⟨by omega, by omega⟩
theorem reach_Copy_ok (h : XV w F x D P m) (hD : D.length ≤ 5000) (hK : ∀ v o, IsX v (fun k => w.heap.size ≤ k ∧ k < v.heap.size) F o D P → Kept Nil w v → K (.pointer (some ⟨o, 0, none⟩)) v) :
    Ret Tryz.prog reach_Index_Copy.id #[.pointer (some ⟨x, 0, none⟩)] w K := by
  have W := h.W
  have htl := h.tlen
  have hpos := W.pos
  obtain ⟨f0, hf0, hc0⟩ := h.cov
  obtain ⟨L, hL⟩ := Classical.axiomOfChoice hc0
  obtain ⟨es, cl, hmb, hents⟩ := h.at_
  have hkl : ∀ (i : Nat) nd, m.T[i]? = some nd → nd.ch.length ≤ 1000000 := fun i nd hnd => by
    have e : nd.ch = Tr.kids P i := by rw [h.fine.ch i nd hnd, h.pars]
    have : (Tr.kids P i).length ≤ P.length := by
      unfold Tr.kids
      exact Nat.le_trans (List.length_filter_le _ _) (by rw [List.length_range]; exact Nat.le_refl _)
    rw [h.sel.len] at this
    rw [e]
    omega
  refine reach_Index_Copy.of ?_
  unfold reach_Index_Copy.W
  refine reach_there h ⟨true, rfl, Split.no rfl ?_⟩
  intro w5
  have k5 : Kept Nil w w5 := (Kept.refl _ _).drew
  clear_value w5
  have h5 := h.same k5
  have N5 : CN w w5 F D m.T m.d (fun _ => 0) none none none none none := ⟨k5, (fun b e => by cases e), (fun b e => by cases e), (fun b e => by cases e), (fun A c e => by cases e), (fun b e => by cases e)⟩
  -- what all orders come to
  have fin : ∀ {v : World} {own : Nat → Nat} {g t mb cb ic : Nat} {A : Option Addr}, CN w v F D m.T m.d own (some g) (some t) (some mb) (some (A, ic)) (some cb) →
      Is (some (⟨x, 0, none⟩ : Addr)) fun a28 : Addr => ∃ cm : Option Nat, (v.alloc (.cells #[.pointer (some ⟨g, 0, none⟩), .pointer (some ⟨t, 0, none⟩), .map (some mb), .slice A D.length ic, .map (some cb)] T_reach_Index)).cell? (a28.add 4) = some (.map cm) ∧ ∃ (it30 : Option Addr) (w_31 : World), (Instr.range T_map_api_Hash_sl_api_Hash (.map cm)).run Tryz.prog (v.alloc (.cells #[.pointer (some ⟨g, 0, none⟩), .pointer (some ⟨t, 0, none⟩), .map (some mb), .slice A D.length ic, .map (some cb)] T_reach_Index)) = .ok (.pointer it30) w_31 ∧ Holds none [] Tryz.prog 50 (.loop (lB (bB (sR (sL (sR (sR (sR (body Tryz.f13))))))))) (reach_Index_Copy.q1 K) (reach_Index_Copy.e1 none ⟨v.heap.size, 0, none⟩ it30 ()) w_31 := by
    intro v own g t mb cb ic A N
    obtain ⟨ib, rfl⟩ := Row.some (N.il _ _ rfl).1 hpos
    have hb := new_blk v (.cells #[.pointer (some ⟨g, 0, none⟩), .pointer (some ⟨t, 0, none⟩), .map (some mb), .slice (some ⟨ib, 0, none⟩) D.length ic, .map (some cb)] T_reach_Index)
    have k27 := (Kept.refl Nil v).alloc (.cells #[.pointer (some ⟨g, 0, none⟩), .pointer (some ⟨t, 0, none⟩), .map (some mb), .slice (some ⟨ib, 0, none⟩) D.length ic, .map (some cb)] T_reach_Index)
    generalize v.alloc (.cells #[.pointer (some ⟨g, 0, none⟩), .pointer (some ⟨t, 0, none⟩), .map (some mb), .slice (some ⟨ib, 0, none⟩) D.length ic, .map (some cb)] T_reach_Index) = v27 at hb k27 ⊢
    have kv := N.kp
    have k027 := kv.trans k27 (fun _ _ h => h)
    have h27 := h.same k027
    obtain ⟨z1, z2, z3⟩ := N.cv cb rfl
    have sv := kv.size
    have lo := lt_blk hb
    have lz := z3.lt
    have lcb : m.cb < w.heap.size := hf0.lt
    obtain ⟨w31, cnt, hr, hit, k31⟩ := (hf0.same k027).range mtCover
    have s31 := k31.size
    refine Is.mk rfl ⟨_, h27.c4, _, w31, hr, ?_⟩
    refine reach_Index_Copy.loop1 (I := fun _ u => ∃ left cnt f', MapIt u m.cb v27.heap.size f0 left cnt ∧ MapF u cb f' ∧ (∀ y, (left y → f' y = none) ∧ (¬ left y → CovAt u (fun k => v27.heap.size < k ∧ k < u.heap.size) D.length (f' y) (L y))) ∧ Kept (fun k => k = cb ∨ k = v27.heap.size) w31 u) (μ := fun _ u => u.rangeLeft m.cb v27.heap.size) (s := ()) ⟨_, cnt, _, hit, (z3.keep k27 (fun h => h)).keep k31 (fun h => h), fun y => ⟨fun _ => rfl, fun hn => ?_⟩, Kept.refl _ _⟩ ?_
    · have := (hL y).1
      rw [Classical.not_not.1 hn] at this
      rcases this with ⟨_, e⟩ | ⟨A, n, c, e, _⟩
      · exact .inl ⟨rfl, e⟩
      · cases e
    rintro s u ⟨left, cnt2, f', hit2, hf2, hinv, ku⟩
    have su := ku.size
    have lit := hit2.lt
    have kwu : Kept Nil w u := (k027.trans k31 (fun _ _ h => h)).trans ku (fun k hk e => by omega)
    have htop : u.heap[v.heap.size]? = _ := ku.heap (k31.heap hb (fun h => h)) (by omega)
    rcases hit2.next 0 with ⟨h0, hnone, hr2⟩ | ⟨y, val, u2, cnt3, hl, hfy, hr2, hent, hit3, hlt, k2⟩
    · refine .inl ⟨u, hr2, ?_⟩
      rw [roundQ_exit, reach_Index_Copy.x1_0]
      have kvu : Kept (· = cb) v u := ((k27.trans k31 (fun _ _ h => h)).mono (S' := (· = cb)) (fun _ _ h => h.elim)).trans ku (fun k hk e => e.elim (fun e => e) (fun e => by omega))
      refine hK u _ (N.fin h rfl htop kvu ⟨f', hf2, fun y => ⟨L y, ?_, (hL y).2⟩⟩) kwu
      rcases (hinv y).2 (hnone y) with e | ⟨A, n, c, e1, e2, e3, e4, e5⟩
      · exact .inl e
      · exact .inr ⟨A, n, c, e1, e2, e3, e4, fun a ha => ⟨by have := (e5 a ha).1; omega, (e5 a ha).2⟩⟩
    · have hcy := (hL y).1
      rw [hfy] at hcy
      rcases hcy with ⟨e, _⟩ | ⟨Ay, ny, cy, e, hnc, hsy, hny, hoy⟩
      · cases e
      cases e
      have s2 := k2.size
      refine .inr ⟨_, _, u2, hr2, y.1, Ay, ny, cy, hent, ?_⟩
      intro w95
      obtain ⟨hwr, hbx, hkx⟩ := box_set (w := u2) (z := hnull.1) (cs := y.1) (t := T_api_Hash) (by rw [y.2.1]; rfl)
      refine ⟨⟨y.2.1, y.2.one, fun j hj => hwr j (by rw [y.2.1]; exact hj)⟩, ?_⟩
      intro w98 w99
      replace hbx : w98.heap[u2.heap.size]? = some (.cells y.1 T_api_Hash (0, 0)) := hbx
      replace hkx : Kept Nil u2 w98 := hkx
      have k99 : Kept Nil w98 w99 := (Kept.refl _ _).drew
      clear_value w99 w98
      have hb99 := k99.heap hbx (fun h => h)
      have k2_99 := hkx.trans k99 (fun _ _ h => h)
      have ku99 : Kept (· = v27.heap.size) u w99 := k2.trans k2_99 (fun _ _ h => h.elim)
      have kw99 : Kept Nil w w99 := kwu.trans ku99 (fun k hk e => by omega)
      have ht99 := ku99.heap htop (by omega)
      refine ⟨some cb, by rw [add_at, cell_blk ht99]; rfl, y.1, ⟨y.2.1, Cells.blk hb99⟩, ?_⟩
      refine clone_hash (hsy.same kw99) (by omega) fun A3 c3 w103 row3 k103 => ⟨A3, ny, c3, rfl, ⟨y.1, rfl, y.2.1, Cells.blk (k103.heap hb99 (fun h => h))⟩, by rw [add_at, cell_blk (k103.heap ht99 (fun h => h))]; rfl, ?_⟩
      have s99 := ku99.size
      have s103 := k103.size
      have s298 := k2_99.size
      have ku103 : Kept (· = v27.heap.size) u w103 := ku99.trans k103 (fun _ _ h => h.elim)
      obtain ⟨w105, hr105, hf105, k105⟩ := (hf2.keep ku103 (by omega)).put mtCover y (.slice A3 ny c3)
      have s105 := k105.size
      have ku105 : Kept (fun k => k = cb ∨ k = v27.heap.size) u w105 := (ku103.mono (S' := fun k => k = cb ∨ k = v27.heap.size) (fun _ _ h => .inr h)).trans k105 (fun _ _ h => .inl h)
      have hit105 := ((hit3.keep k2_99 (fun h => h) (fun h => h)).keep k103 (fun h => h) (fun h => h)).keep k105 (by omega) (by omega)
      refine ⟨w105, hr105, (), rfl, ⟨_, cnt3, _, hit105, hf105, fun z => ⟨fun hz => ?_, fun hz => ?_⟩, ku.trans ku105 (fun _ _ h => h)⟩, ?_⟩
      · rw [if_neg hz.2]
        exact (hinv z).1 hz.1
      · by_cases hzy : z = y
        · subst hzy
          rw [if_pos rfl]
          have hblk : ∀ a, A3 = some a → w99.heap.size ≤ a.block ∧ a.block < w103.heap.size := fun a ha => by
            obtain ⟨q1, cur, q2⟩ := Row.blk row3 (k := a.block) (by rw [ha]; rfl)
            exact ⟨q1, lt_blk q2⟩
          refine .inr ⟨A3, ny, c3, rfl, ?_, (HRow.hs row3).keep k105 (fun a ha e => by have := hblk a ha; omega), hny, fun a ha => ?_⟩
          · rcases Row.own row3 with ⟨_, h1, h2, _⟩ | ⟨_, _, _, _, _, h1, _⟩ <;> omega
          · have := hblk a ha
            have := lt_blk hb99
            exact ⟨by omega, by omega⟩
        · rw [if_neg hzy]
          have hnl : ¬ left z := fun hl => hz ⟨hl, hzy⟩
          rcases ((hinv z).2 hnl).keep ku105 (fun k hk e => by omega) with e | ⟨A, n, c, e1, e2, e3, e4, e5⟩
          · exact .inl e
          · exact .inr ⟨A, n, c, e1, e2, e3, e4, fun a ha => ⟨(e5 a ha).1, by have := (e5 a ha).2; have := ku105.size; omega⟩⟩
      · show w105.rangeLeft m.cb v27.heap.size < u.rangeLeft m.cb v27.heap.size
        rw [hit105.left_eq, hit2.left_eq]
        exact hlt
  refine Is.mk rfl ⟨_, h5.c0, Is.mk rfl ⟨_, h5.c1, Is.mk rfl ⟨_, h5.c2, Is.mk rfl ⟨_, _, _, h5.c3, ?_⟩⟩⟩⟩
  refine ⟨?_, ?_⟩
  · obtain ⟨bl5a, cc5a, mg5a, M5a, G5a⟩ := (h.same k5).G
    refine dag_Copy G5a (by omega) hpos fun w5a g5a hG5a q5a => ⟨_, rfl, ?_⟩
    have N5a := N5.addG hG5a q5a
    have k5a := N5a.kp
    refine ⟨(h.same k5a).c3, (h.same k5a).c2, (h.same k5a).c1, ?_⟩
    refine ⟨?_, ?_⟩
    · refine Tr.tree_Copy (h.same k5a).T (by omega) (by omega) hkl fun w5ab t5ab hT5ab q5ab => ⟨_, rfl, ?_⟩
      have N5ab := N5a.addT hT5ab q5ab
      have k5ab := N5ab.kp
      refine ⟨(h.same k5ab).c3, (h.same k5ab).c2, ?_⟩
      refine ⟨?_, ?_⟩
      · refine run_cloneMap (k5ab.heap hmb (fun h => h)) ⟨_, rfl, ?_⟩
        have N5abc := N5ab.addE (es := es) (cl := cl) hents
        generalize w5ab.alloc (.map es cl) = w5abc at N5abc ⊢
        have k5abc := N5abc.kp
        refine ⟨(h.same k5abc).c3, ?_⟩
        refine ⟨?_, ?_⟩
        · refine clone_hash (HRow.hs (h.same k5abc).row) (by omega) fun A5abcd c5abcd w5abcd r5abcd q5abcd => ⟨A5abcd, _, c5abcd, rfl, ?_⟩
          have N5abcd := N5abc.addI r5abcd q5abcd
          have k5abcd := N5abcd.kp
          exact fin N5abcd.addZ
        · intro w5abcz
          have N5abcz := N5abc.addZ
          replace N5abcz : CN w w5abcz F D m.T m.d _ _ _ _ _ _ := N5abcz
          clear_value w5abcz
          have k5abcz := N5abcz.kp
          refine ⟨(h.same k5abcz).c3, ?_⟩
          refine clone_hash (HRow.hs (h.same k5abcz).row) (by omega) fun A5abczd c5abczd w5abczd r5abczd q5abczd => ⟨A5abczd, _, c5abczd, rfl, ?_⟩
          have N5abczd := N5abcz.addI r5abczd q5abczd
          have k5abczd := N5abczd.kp
          exact fin N5abczd
      · intro w5abz
        have N5abz := N5ab.addZ
        replace N5abz : CN w w5abz F D m.T m.d _ _ _ _ _ _ := N5abz
        clear_value w5abz
        have k5abz := N5abz.kp
        refine ⟨(h.same k5abz).c3, (h.same k5abz).c2, ?_⟩
        refine run_cloneMap (k5abz.heap hmb (fun h => h)) ⟨_, rfl, ?_⟩
        have N5abzc := N5abz.addE (es := es) (cl := cl) hents
        generalize w5abz.alloc (.map es cl) = w5abzc at N5abzc ⊢
        have k5abzc := N5abzc.kp
        refine ⟨(h.same k5abzc).c3, ?_⟩
        refine clone_hash (HRow.hs (h.same k5abzc).row) (by omega) fun A5abzcd c5abzcd w5abzcd r5abzcd q5abzcd => ⟨A5abzcd, _, c5abzcd, rfl, ?_⟩
        have N5abzcd := N5abzc.addI r5abzcd q5abzcd
        have k5abzcd := N5abzcd.kp
        exact fin N5abzcd
    · intro w5az
      have N5az := N5a.addZ
      replace N5az : CN w w5az F D m.T m.d _ _ _ _ _ _ := N5az
      clear_value w5az
      have k5az := N5az.kp
      refine ⟨(h.same k5az).c3, (h.same k5az).c2, (h.same k5az).c1, ?_⟩
      refine Tr.tree_Copy (h.same k5az).T (by omega) (by omega) hkl fun w5azb t5azb hT5azb q5azb => ⟨_, rfl, ?_⟩
      have N5azb := N5az.addT hT5azb q5azb
      have k5azb := N5azb.kp
      refine ⟨(h.same k5azb).c3, (h.same k5azb).c2, ?_⟩
      refine run_cloneMap (k5azb.heap hmb (fun h => h)) ⟨_, rfl, ?_⟩
      have N5azbc := N5azb.addE (es := es) (cl := cl) hents
      generalize w5azb.alloc (.map es cl) = w5azbc at N5azbc ⊢
      have k5azbc := N5azbc.kp
      refine ⟨(h.same k5azbc).c3, ?_⟩
      refine clone_hash (HRow.hs (h.same k5azbc).row) (by omega) fun A5azbcd c5azbcd w5azbcd r5azbcd q5azbcd => ⟨A5azbcd, _, c5azbcd, rfl, ?_⟩
      have N5azbcd := N5azbc.addI r5azbcd q5azbcd
      have k5azbcd := N5azbcd.kp
      exact fin N5azbcd
  · intro w5z
    have N5z := N5.addZ
    replace N5z : CN w w5z F D m.T m.d _ _ _ _ _ _ := N5z
    clear_value w5z
    have k5z := N5z.kp
    refine ⟨(h.same k5z).c3, (h.same k5z).c2, (h.same k5z).c1, (h.same k5z).c0, ?_⟩
    obtain ⟨bl5za, cc5za, mg5za, M5za, G5za⟩ := (h.same k5z).G
    refine dag_Copy G5za (by omega) hpos fun w5za g5za hG5za q5za => ⟨_, rfl, ?_⟩
    have N5za := N5z.addG hG5za q5za
    have k5za := N5za.kp
    refine ⟨(h.same k5za).c3, (h.same k5za).c2, (h.same k5za).c1, ?_⟩
    refine Tr.tree_Copy (h.same k5za).T (by omega) (by omega) hkl fun w5zab t5zab hT5zab q5zab => ⟨_, rfl, ?_⟩
    have N5zab := N5za.addT hT5zab q5zab
    have k5zab := N5zab.kp
    refine ⟨(h.same k5zab).c3, (h.same k5zab).c2, ?_⟩
    refine run_cloneMap (k5zab.heap hmb (fun h => h)) ⟨_, rfl, ?_⟩
    have N5zabc := N5zab.addE (es := es) (cl := cl) hents
    generalize w5zab.alloc (.map es cl) = w5zabc at N5zabc ⊢
    have k5zabc := N5zabc.kp
    refine ⟨(h.same k5zabc).c3, ?_⟩
    refine clone_hash (HRow.hs (h.same k5zabc).row) (by omega) fun A5zabcd c5zabcd w5zabcd r5zabcd q5zabcd => ⟨A5zabcd, _, c5zabcd, rfl, ?_⟩
    have N5zabcd := N5zabc.addI r5zabcd q5zabcd
    have k5zabcd := N5zabcd.kp
    exact fin N5zabcd
end
end Go.Proofs.YtgfkpemnkmebkaaGreatDoor
/-
  The walk of ReachApart: two pairs of indexes, apart in memory.
-/
namespace Go.Proofs.YtgfkpemnkmebkaaGreatDoor
open Go Go.Lite Go.RowKit

/-- a pair of an index and the document's: where it lies, what it is -/
structure Pr where
  S : Nat → Prop
  F : Nat → Prop
  x : Nat
  R : Nat → Prop
  r : Nat
  a : DP
def Pr.wr (p : Pr) (k : Nat) : Prop := p.S k ∨ k = p.r
def Pr.all (p : Pr) (k : Nat) : Prop := p.S k ∨ p.F k ∨ p.R k ∨ k = p.r
def Pr.ok (p : Pr) (w : World) : Prop := BothX w p.S p.F p.x p.R p.r p.a.D p.a.P
structure Two (w : World) (p q : Pr) : Prop where
  A : p.ok w
  B : q.ok w
  ab : ∀ k, p.wr k → ¬ q.all k
  ba : ∀ k, q.wr k → ¬ p.all k
  la : ∀ k, p.all k → k < w.heap.size
  lb : ∀ k, q.all k → k < w.heap.size
section
variable {w w' u : World} {p q : Pr} {FP : Nat → Prop} {K : Value → World → Prop}
theorem Two.symm (T : Two w p q) : Two w q p := ⟨T.B, T.A, T.ba, T.ab, T.lb, T.la⟩
theorem Two.same (T : Two w p q) (k : Kept Nil w w') : Two w' p q :=
  ⟨BothX.same T.A k, BothX.same T.B k, T.ab, T.ba, fun q h => Nat.lt_of_lt_of_le (T.la q h) k.size, fun q h => Nat.lt_of_lt_of_le (T.lb q h) k.size⟩
/-- one more in the first -/
theorem Two.step (T : Two w p q) {t : World} {S' F' R' : Nat → Prop} {a : DP} (B : BothX t S' F' p.x R' p.r a.D a.P) (k : Kept (fun k => p.S k ∨ k = p.r) w t) (hS : ∀ k, S' k → p.S k ∨ w.heap.size ≤ k) (hF : ∀ k, F' k → p.F k ∨ w.heap.size ≤ k) (hR : ∀ k, R' k → p.R k ∨ w.heap.size ≤ k) :
    ∃ S'' , (∀ k, S'' k → S' k) ∧ Two t ⟨S'', F', p.x, R', p.r, a⟩ q := by
  obtain ⟨S'', hX, h2⟩ := B.X.low
  have hw : ∀ k, w.heap.size ≤ k → ¬ q.all k := fun k h e => by have := T.lb k e; omega
  have hsz := k.size
  refine ⟨S'', fun k h => (h2 k h).1, ⟨hX, B.R, fun e => B.rS (h2 _ e).1, B.rF, fun k e e' => B.fS k e (h2 _ e').1, B.low⟩, ?_, ?_, ?_, ?_, ?_⟩
  · exact BothX.keep T.B k (fun k e e' => T.ab k e' (.inl e)) (fun k e e' => T.ab k e' (.inr (.inl e))) (fun e => T.ab _ e (.inr (.inr (.inr rfl)))) (fun k e e' => T.ab k e' (.inr (.inr (.inl e))))
  · rintro k (e | e)
    · rcases hS k (h2 k e).1 with h | h
      · exact T.ab k (.inl h)
      · exact hw k h
    · exact T.ab k (.inr e)
  · rintro k hk (e | e | e | e)
    · rcases hS k (h2 k e).1 with h | h
      · exact T.ba k hk (.inl h)
      · have : k < w.heap.size := T.lb k (hk.elim (fun e => .inl e) (fun e => .inr (.inr (.inr e)))); omega
    · rcases hF k e with h | h
      · exact T.ba k hk (.inr (.inl h))
      · have : k < w.heap.size := T.lb k (hk.elim (fun e => .inl e) (fun e => .inr (.inr (.inr e)))); omega
    · rcases hR k e with h | h
      · exact T.ba k hk (.inr (.inr (.inl h)))
      · have : k < w.heap.size := T.lb k (hk.elim (fun e => .inl e) (fun e => .inr (.inr (.inr e)))); omega
    · exact T.ba k hk (.inr (.inr (.inr e)))
  · rintro k (e | e | e | e)
    · exact (h2 k e).2
    · exact B.X.lowF k e
    · exact B.low k e
    · have e : k = p.r := e
      have := T.la k (.inr (.inr (.inr e)))
      omega
  · exact fun k e => Nat.lt_of_lt_of_le (T.lb k e) hsz
theorem Stp.cells {A : Option Addr} {n : Nat} {l : List SN} (hl : Stp w FP A n l) {i : Nat} {sn : SN} (hsn : l[i]? = some sn) : ∃ a pA pn pc, A = some a ∧ HS w pA pn sn.ps ∧ ∀ {u : World}, Kept Nil w u → Cells u ((a.add ((i : Int).toNat * 65)).add 0) sn.id.1 ∧ Cells u ((a.add ((i : Int).toNat * 65)).add 32) sn.sel.1 ∧ u.cell? ((a.add ((i : Int).toNat * 65)).add 64) = some (.slice pA pn pc) := by
  obtain ⟨a, pA, pn, pc, rfl, _, h3, h4, h5, hq, _⟩ := hl.at_ i sn hsn
  refine ⟨a, pA, pn, pc, rfl, hq, fun k => ?_⟩
  rw [Int.toNat_natCast, add_zero]
  exact ⟨Cells.keep h3 k (fun h => h), Cells.keep h4 k (fun h => h), k.cell h5 (fun h => h)⟩
/-- how far the steps of the first are -/
def ApI (w : World) (p q : Pr) (l : List SN) : Bool × Int → World → Prop := fun s u => ∃ (i : Nat) (S F R : Nat → Prop), s = (false, (i : Int)) ∧ i ≤ l.length ∧ Two u ⟨S, F, p.x, R, p.r, (l.take i).foldl stepX p.a⟩ q ∧ Kept Nil w u ∧ ∀ k, S k → w.heap.size ≤ k
/-- one step of it, both Adds -/
theorem ap_step {A : Option Addr} {n : Nat} {l : List SN} (hl : Stp w FP A n l) (hn : n ≤ 8) (hps : ∀ sn ∈ l, sn.ps.length ≤ 8) (hT : Tab w) (hpr : w.heap.size ≤ p.r) (hpa : p.a.D.length ≤ 100) {i : Nat} {S F R : Nat → Prop} (hil : i < n) (T : Two u ⟨S, F, p.x, R, p.r, (l.take i).foldl stepX p.a⟩ q) (ku : Kept Nil w u) (hS : ∀ k, S k → w.heap.size ≤ k)
    {Rr Z : World → Prop} (hZ : ∀ t, ApI w p q l (false, (i : Int) + 1) t → Z t) :
    (0 ≤ (i : Int) ∧ (i : Int) < (n : Int)) ∧ Is A fun a49 : Addr => ∃ t1 : Array Value, (t1.size = 32 ∧ Cells u ((a49.add ((i : Int).toNat * 65)).add 0) t1) ∧ (0 ≤ (i : Int) ∧ (i : Int) < (n : Int)) ∧ Is A fun a51 : Addr => ∃ t2 : Array Value, (t2.size = 32 ∧ Cells u ((a51.add ((i : Int).toNat * 65)).add 32) t2) ∧ (0 ≤ (i : Int) ∧ (i : Int) < (n : Int)) ∧ Is A fun a53 : Addr => ∃ A3 : Option Addr, ∃ n3 : Nat, ∃ c3 : Nat, u.cell? ((a53.add ((i : Int).toNat * 65)).add 64) = some (.slice A3 n3 c3) ∧
      (0 ≤ (i : Int) ∧ (i : Int) < (n : Int)) ∧ Is A fun a55 : Addr => ∃ t4 : Array Value, (t4.size = 32 ∧ Cells u ((a55.add ((i : Int).toNat * 65)).add 0) t4) ∧ (0 ≤ (i : Int) ∧ (i : Int) < (n : Int)) ∧ Is A fun a57 : Addr => ∃ t5 : Array Value, (t5.size = 32 ∧ Cells u ((a57.add ((i : Int).toNat * 65)).add 32) t5) ∧ (0 ≤ (i : Int) ∧ (i : Int) < (n : Int)) ∧ Is A fun a59 : Addr => ∃ A6 : Option Addr, ∃ n6 : Nat, ∃ c6 : Nat, u.cell? ((a59.add ((i : Int).toNat * 65)).add 64) = some (.slice A6 n6 c6) ∧
      Ret Tryz.prog reach_Index_Add.id #[.pointer (some ⟨p.x, 0, none⟩), .agg t1, .agg t2, .slice A3 n3 c3] u fun v61 u2 => ∃ e1 : Int, v61 = .int .i64 e1 ∧ u2.cell? ((a59.add ((i : Int).toNat * 65)).add 64) = some (.slice A6 n6 c6) ∧ (∃ cs : Array Value, (.agg t5 : Value) = .agg cs ∧ cs.size = 32 ∧ Cells u2 ((a57.add ((i : Int).toNat * 65)).add 32) cs) ∧ (∃ cs : Array Value, (.agg t4 : Value) = .agg cs ∧ cs.size = 32 ∧ Cells u2 ((a55.add ((i : Int).toNat * 65)).add 0) cs) ∧
      Ret Tryz.prog ref12_Index_Add.id #[.pointer (some ⟨p.r, 0, none⟩), .agg t4, .agg t5, .slice A6 n6 c6] u2 fun v64 u3 => ∃ e2 : Int, v64 = .int .i64 e2 ∧ Split (e1 != e2) (Rr u3) (Z u3) := by
  have hlen := hl.len
  obtain ⟨sn, hsn⟩ : ∃ sn, l[i]? = some sn := ⟨_, List.getElem?_eq_getElem (by omega)⟩
  have hpl := hps sn (List.mem_of_getElem? hsn)
  obtain ⟨a, pA, pn, pc, rfl, hq, hc⟩ := hl.cells hsn
  have hpn := hq.len
  have hb : 0 ≤ (i : Int) ∧ (i : Int) < (n : Int) := ⟨by omega, by omega⟩
  obtain ⟨c1, c2, c3⟩ := hc ku
  have su := ku.size
  have hTl := hT.lt
  have hDl := stepX_len (l.take i) p.a
  rw [List.length_take] at hDl
  refine ⟨hb, Is.mk rfl ⟨sn.id.1, ⟨sn.id.2.1, c1⟩, hb, Is.mk rfl ⟨sn.sel.1, ⟨sn.sel.2.1, c2⟩, hb, Is.mk rfl ⟨pA, pn, pc, c3, hb, Is.mk rfl ⟨sn.id.1, ⟨sn.id.2.1, c1⟩, hb, Is.mk rfl ⟨sn.sel.1, ⟨sn.sel.2.1, c2⟩, hb, Is.mk rfl ⟨pA, pn, pc, c3, ?_⟩⟩⟩⟩⟩⟩⟩
  refine both_add (show BothX u S F p.x R p.r _ _ from T.A) (show ((l.take i).foldl stepX p.a).D.length ≤ 4000 by omega) (hT.same ku) (fun e => by have := hS _ e; omega) (hq.same ku) (by omega) (fun h0 b hb e => by have := hS _ e; have := hs_lt hq h0 b hb; omega) sn.id sn.sel fun u2 ku2 h2 => ?_
  have kw2 : Kept Nil w u2 := ku.trans ku2 (fun k hk e => by have := hS k e; omega)
  obtain ⟨d1, d2, d3⟩ := hc kw2
  refine ⟨_, rfl, d3, ⟨sn.sel.1, rfl, sn.sel.2.1, d2⟩, ⟨sn.id.1, rfl, sn.id.2.1, d1⟩, h2 _ _ fun t S' F' R' B' kt hS' hF' hR' => ⟨_, rfl, Split.no (by simp) (hZ t ?_)⟩⟩
  have e : (l.take (i + 1)).foldl stepX p.a = stepX ((l.take i).foldl stepX p.a) sn := stepX_snoc hsn
  obtain ⟨S'', hs2, T'⟩ := T.step (a := stepX ((l.take i).foldl stepX p.a) sn) B' kt hS' hF' hR'
  exact ⟨i + 1, S'', F', R', rfl, by omega, by rw [e]; exact T', ku.trans kt (fun k hk e => e.elim (fun e => by have := hS k e; omega) (fun e => by have e : k = p.r := e; omega)), fun k hk => (hS' k (hs2 k hk)).elim (hS k) (fun h => by omega)⟩
theorem XV.dis {D : DG} {P : List Int} {m : XM} {x : Nat} {F : Nat → Prop} (h : XV w F x D P m) : ∀ k, m.foot x k → ¬ F k := fun k e => by
  obtain ⟨bl, c, mb, M, G⟩ := h.G
  rcases e with e | e | e | e
  · exact G.dis k e
  · exact fun f => (h.fd k f).1 e
  · exact fun f => (h.fd k f).2 e
  · exact (h.od k e).2.2.2
theorem apartX_ok {A A2 A3 : Option Addr} {n c n2 c2 n3 c3 : Nat} {l la lb : List SN} (hl : Stp w FP A n l) (hn : n < 9223372036854775808) (hla : Stp w FP A2 n2 la) (hn2 : n2 < 9223372036854775808) (hlb : Stp w FP A3 n3 lb) (hn3 : n3 < 9223372036854775808) (root : HT) (hT : Tab w) (hK : ∀ w', Kept Nil w w' → K (.bool true) w') :
    Ret Tryz.prog law12_ReachApart.id #[.agg root.1, .slice A n c, .slice A2 n2 c2, .slice A3 n3 c3] w K := by
  have hlen := hl.len
  have hlena := hla.len
  have hlenb := hlb.len
  refine law12_ReachApart.of ?_
  unfold law12_ReachApart.W
  intro w5
  have k5 : Kept Nil w w5 := (Kept.refl _ _).alloc _
  have hr5 : w5.heap[w.heap.size]? = some (.cells root.1 T_api_Hash (0, 0)) := new_blk w _
  clear_value w5
  have kn : ∀ {v : World}, Kept Nil w v → Ret Tryz.prog law12_known.id #[] v fun v3 w_4 => ∃ t : Bool, v3 = .bool t ∧ K (.bool t) w_4 := fun k => knownX_ok (hT.same k) fun w4 k4 => ⟨true, rfl, hK w4 (k.trans k4 (fun _ _ h => h))⟩
  refine fewS_ok (hl.same k5) hn 15 fun b1 h1 => ⟨b1, rfl, ?_⟩
  cases b1 with
  | false => exact Split.yes rfl (kn k5)
  | true =>
  refine Split.no rfl (fewS_ok (hla.same k5) hn2 8 fun b2 h2 => ⟨b2, rfl, ?_⟩)
  cases b2 with
  | false => exact Split.yes rfl (kn k5)
  | true =>
  refine Split.no rfl (fewS_ok (hlb.same k5) hn3 8 fun b3 h3 => ⟨b3, rfl, ?_⟩)
  cases b3 with
  | false => exact Split.yes rfl (kn k5)
  | true =>
  obtain ⟨hps, hll⟩ := h1.1 rfl
  obtain ⟨hpsa, hlla⟩ := h2.1 rfl
  obtain ⟨hpsb, hllb⟩ := h3.1 rfl
  refine Split.no rfl ⟨root.1, ⟨root.2.1, Cells.blk hr5⟩, beginX_ok (hl.same k5) (by omega) hps root (hT.same k5) fun w26 S F x FR r B k26 nS nF nR nr => ⟨some ⟨x, 0, none⟩, some ⟨r, 0, none⟩, true, rfl, Split.no rfl ?_⟩⟩
  have k026 := k5.trans k26 (fun _ _ h => h)
  have s5 := k5.size
  have hDl := buildX_len root l
  obtain ⟨m, hV, hfoot⟩ := B.X
  refine reach_Copy_ok hV (by omega) fun w31 o hO k31 => ⟨_, rfl, ?_⟩
  intro w33
  have k33 : Kept Nil w31 w33 := (Kept.refl _ _).drew
  clear_value w33
  have k2633 := k31.trans k33 (fun _ _ h => h)
  have B33 := B.same k2633
  obtain ⟨A0, c0, B0, e0, sl, ht, hns, hsl, hB0, hSel⟩ := B33.R.ex
  have hc0 : w33.cell? (((⟨r, 0, none⟩ : Addr).add 0).add 0) = some (.slice A0 (buildX root l).D.length c0) := by rw [add_zero, add_zero, cell_blk ht]; rfl
  refine Is.mk rfl ⟨A0, _, c0, hc0, Is.mk rfl ⟨B0, _, e0, by rw [add_at, cell_blk ht]; rfl, ?_⟩⟩
  intro w38
  have k38 : Kept Nil w33 w38 := (Kept.refl _ _).alloc _
  have hv38 : w38.heap[w33.heap.size]? = some (.cells #[.slice A0 (buildX root l).D.length c0, .slice B0 (buildX root l).D.length e0] T_plexusref12_Index (0, 0)) := new_blk w33 _
  clear_value w38
  have k3138 := k33.trans k38 (fun _ _ h => h)
  have k2638 := k31.trans k3138 (fun _ _ h => h)
  have k038 := k026.trans k2638 (fun _ _ h => h)
  have s31 := k31.size
  have s33 := k33.size
  have s38 := k38.size
  have lr := B.R.lt
  have lv := lt_blk hv38
  have lowS : ∀ k, m.foot x k → k < w26.heap.size := fun k e => hV.low k (.inl e)
  have lowF : ∀ k, F k → k < w26.heap.size := fun k e => hV.low k (.inr e)
  have hF38 : ∀ k, FR k → k < w38.heap.size := fun k e => by have := B.low k e; omega
  let p : Pr := ⟨m.foot x, F, x, FR, r, buildX root l⟩
  let q : Pr := ⟨fun k => w26.heap.size ≤ k ∧ k < w31.heap.size, F, o, FR, w33.heap.size, buildX root l⟩
  have T0 : Two w38 p q := by
    refine ⟨⟨⟨m, hV.same k2638, fun _ h => h⟩, B.R.same k2638, fun e => B.rS (hfoot _ e), B.rF, fun k e e' => B.fS k e (hfoot _ e'), hF38⟩, ⟨hO.same k3138, ⟨⟨A0, c0, B0, e0, sl, hv38, hns.same k38, hsl.same k38, hB0, hSel⟩, fun e => by have : w33.heap.size < w26.heap.size := B.low _ e; omega, B.R.sel, B.R.W⟩, fun e => by have := (show w26.heap.size ≤ w33.heap.size ∧ w33.heap.size < w31.heap.size from e).2; omega, fun e => by have : w33.heap.size < w26.heap.size := lowF _ e; omega, fun k e e' => by have := B.low k e; have := (show w26.heap.size ≤ k ∧ k < w31.heap.size from e').1; omega, hF38⟩, ?_, ?_, ?_, ?_⟩
    · rintro k (e | e) (e' | e' | e' | e')
      · have := lowS k e; have := e'.1; omega
      · exact hV.dis k e e'
      · exact B.fS k e' (hfoot k e)
      · have := lowS k e; have e' : k = w33.heap.size := e'; omega
      · have e : k = r := e; have := e'.1; omega
      · have e : k = r := e; exact B.rF (e ▸ e')
      · have e : k = r := e; exact B.R.far (e ▸ e')
      · have e : k = r := e; have e' : k = w33.heap.size := e'; omega
    · rintro k (e | e) (e' | e' | e' | e')
      · have := lowS k e'; have := e.1; omega
      · have := lowF k e'; have := e.1; omega
      · have := B.low k e'; have := e.1; omega
      · have e' : k = r := e'; have := e.1; omega
      · have e : k = w33.heap.size := e; have := lowS k e'; omega
      · have e : k = w33.heap.size := e; have := lowF k e'; omega
      · have e : k = w33.heap.size := e; have := B.low k e'; omega
      · have e : k = w33.heap.size := e; have e' : k = r := e'; omega
    · rintro k (e | e | e | e)
      · have := lowS k e; omega
      · have := lowF k e; omega
      · exact hF38 k e
      · have e : k = r := e; omega
    · rintro k (e | e | e | e)
      · have := e.2; omega
      · have := lowF k e; omega
      · exact hF38 k e
      · have e : k = w33.heap.size := e; omega
  refine law12_ReachApart.loop1 (I := ApI w5 p q la) (μ := fun s _ => ((n2 : Int) - s.2).toNat) (s := (false, 0)) ⟨0, m.foot x, F, FR, rfl, Nat.zero_le _, T0, k26.trans k2638 (fun _ _ h => h), fun k e => nS k (hfoot k e)⟩ ?_
  rintro s u ⟨i, S1, F1, R1, rfl, hi, T1, ku, hS1⟩
  refine Split.dec (fun hil0 => ?_) (fun hge => ?_)
  · simp only at hil0
    intro w48
    have k48 : Kept Nil u w48 := (Kept.refl _ _).drew
    clear_value w48
    refine ap_step (p := p) (hla.same k5) (by omega) hpsa (hT.same k5) nr (show (buildX root l).D.length ≤ 100 by omega) (by omega) (T1.same k48) (ku.trans k48 (fun _ _ h => h)) hS1 fun t ht => ?_
    simp only
    rw [wrapP (n := (i : Int)) (by omega) (by omega)]
    exact ⟨(false, (i : Int) + 1), rfl, ht, by simp only; omega⟩
  · simp only at hge
    have hie : i = la.length := by omega
    subst hie
    rw [List.take_of_length_le (Nat.le_refl _)] at T1
    rw [roundQ_exit, law12_ReachApart.x1_0]
    unfold law12_ReachApart.X1_0
    have T1s := T1.symm
    let p' : Pr := ⟨S1, F1, x, R1, r, la.foldl stepX (buildX root l)⟩
    refine law12_ReachApart.loop2 (I := ApI w5 q p' lb) (μ := fun s _ => ((n3 : Int) - s.2).toNat) (s := (false, 0)) ⟨0, q.S, q.F, q.R, rfl, Nat.zero_le _, T1s, ku, fun k e => by have := k26.size; have e1 := (show w26.heap.size ≤ k ∧ k < w31.heap.size from e).1; omega⟩ ?_
    rintro s u2 ⟨i2, S2, F2, R2, rfl, hi2, T2, ku2, hS2⟩
    refine Split.dec (fun hil2 => ?_) (fun hge2 => ?_)
    · simp only at hil2
      intro w84
      have k84 : Kept Nil u2 w84 := (Kept.refl _ _).drew
      clear_value w84
      refine ap_step (p := q) (hlb.same k5) (by omega) hpsb (hT.same k5) (show w5.heap.size ≤ w33.heap.size by have := k26.size; omega) (show (buildX root l).D.length ≤ 100 by omega) (by omega) (T2.same k84) (ku2.trans k84 (fun _ _ h => h)) hS2 fun t ht => ?_
      simp only
      rw [wrapP (n := (i2 : Int)) (by omega) (by omega)]
      exact ⟨(false, (i2 : Int) + 1), rfl, ht, by simp only; omega⟩
    · simp only at hge2
      have hie2 : i2 = lb.length := by omega
      subst hie2
      rw [List.take_of_length_le (Nat.le_refl _)] at T2
      rw [roundQ_exit, law12_ReachApart.x2_2]
      unfold law12_ReachApart.X2_2
      have ku2r : u2.heap[w.heap.size]? = some (.cells root.1 T_api_Hash (0, 0)) := ku2.heap hr5 (fun h => h)
      have hl1 := stepX_len la (buildX root l)
      have hl2 := stepX_len lb (buildX root l)
      refine ⟨root.1, ⟨root.2.1, Cells.blk ku2r⟩, sameX_ok (show BothX u2 S1 F1 x R1 r _ _ from T2.B) (by show (la.foldl stepX (buildX root l)).D.length ≤ 2000; omega) root fun w113 k113 => ⟨true, rfl, Split.yes rfl ⟨root.1, ⟨root.2.1, Cells.blk (k113.heap ku2r (fun h => h))⟩, ?_⟩⟩⟩
      refine sameX_ok (BothX.same (show BothX u2 S2 F2 o R2 w33.heap.size _ _ from T2.A) k113) (by show (lb.foldl stepX (buildX root l)).D.length ≤ 2000; omega) root fun w117 k117 => ⟨true, rfl, Split.yes rfl ?_⟩
      exact kn (((k5.trans ku2 (fun _ _ h => h)).trans k113 (fun _ _ h => h)).trans k117 (fun _ _ h => h))
end
end Go.Proofs.YtgfkpemnkmebkaaGreatDoor
