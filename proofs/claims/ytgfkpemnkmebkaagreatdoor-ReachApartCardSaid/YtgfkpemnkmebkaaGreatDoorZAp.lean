/-
  ReachApart holds: a copy goes on apart. No conditions.
-/
import Derived.Test.YtgfkpemnkmebkaaGreatDoorMJ
import Derived.Test.YtgfkpemnkmebkaaGreatDoorMK
import Derived.Test.YtgfkpemnkmebkaaGreatDoorCards
import Derived.Test.YtgfkpemnkmebkaaGreatDoorTie
import Derived.SevenTiedAt
import Derived.OpenShut
import Derived.ShutString
import Derived.ChangeOld
namespace Go.Proofs.YtgfkpemnkmebkaaGreatDoor
open Go Go.Lite Go.ChangeShapes Go.WideShapes Go.ChangeAt Go.RowKit
set_option linter.unusedVariables false

theorem reachApart_stepX : Tryz.prog.underlying T_plexuslaw12_Step = some (.struct #[⟨"ID", T_api_Hash, 0, false, "", "", 0⟩, ⟨"Selected", T_api_Hash, 32, false, "", "", 32⟩, ⟨"Parents", T_sl_api_Hash, 64, false, "", "", 64⟩]) := by kernel_rfl
theorem reachApart_walk (h0 : HT) (A1 : Option Addr) (n1 c1 : Nat) (l1 : List SN) (A2 : Option Addr) (n2 c2 : Nat) (l2 : List SN) (A3 : Option Addr) (n3 c3 : Nat) (l3 : List SN) (w : World) (w1 : Stp w (fun _ => True) A1 n1 l1) (m1 : n1 < 9223372036854775808) (w2 : Stp w (fun _ => True) A2 n2 l2) (m2 : n2 < 9223372036854775808) (w3 : Stp w (fun _ => True) A3 n3 l3) (m3 : n3 < 9223372036854775808) (T : Tab w) :
    Calls Tryz.prog 4 #[.agg h0.1, .slice A1 n1 c1, .slice A2 n2 c2, .slice A3 n3 c3] w fun e w' => e = .returned (.bool true) ∧ Below w.heap.size w w' :=
  (show Ret Tryz.prog 4 #[.agg h0.1, .slice A1 n1 c1, .slice A2 n2 c2, .slice A3 n3 c3] w (fun v w' => v = .bool true ∧ Below w.heap.size w w') from apartX_ok w1 m1 w2 m2 w3 m3 h0 T (fun w' k => ⟨rfl, k.below (Nat.le_refl _) (fun _ _ h => h)⟩)).mono fun e w' h => by
    obtain ⟨v, rfl, rfl, hb⟩ := h
    exact ⟨rfl, hb⟩

set_option maxRecDepth 100000 in
theorem reachApart_lifted (os : Os) (started : os.Started) (H : Type) (enc : TypeId × Value → H) :
    ReturnsInHanded {} Tryz.checked os 4 .any (fun w args => (Rows.reachApartSpec.pre enc Tryz.prog Tryz.f4 [] false w args ∧ laidMetH Tryz.prog Rows.reachApartRow.laid w) ∧ sizedMet enc Tryz.prog Tryz.f4 (OpenSpec.ofChange Rows.reachApartSpec) false w args)
      (Rows.reachApartSpec.post enc Tryz.prog Tryz.f4 false true false false) := by
  refine returnsInHanded_of_change_and (C := Tryz.checked) (X := fun w _ => laidMetH Tryz.prog Rows.reachApartRow.laid w) (fun _ _ _ hh h => h.of_heap hh) ownNone started (by kernel_rfl) Tryz.func4
    (ChangeSpec.witness_shaped (enc := enc) (C := Tryz.checked) (os := os) (X := fun w _ => laidMetH Tryz.prog Rows.reachApartRow.laid w) false (World.laidAll Tryz.prog os Rows.reachApartRow.laid) #[.agg (Array.replicate 32 (.int .u8 0)), .slice none 0 0, .slice none 0 0, .slice none 0 0] 8 (World.laidAll_os _ _ _)
      (World.shaped_of_ZipB (by kernel_rfl) (by kernel_rfl)) (by kernel_rfl) (by kernel_rfl) (by kernel_rfl)
      (by rw [MakeChecks.laidMetH_plain _ _ _ (by kernel_rfl)]; exact laidMet_laidAll _ (by kernel_rfl) (by kernel_rfl))) ?_
  intro W base args ds gs before hval0 hW _ _ hX _
  have hval : ∀ (j : Nat) t v, Tryz.f4.params[j]? = some t → args[j]? = some v → Value.okWide Tryz.prog W .any base t v := hval0
  have hW' := hW
  obtain ⟨p, q, hA0, hV, rfl, hfz, hnd⟩ := hW
  have hA : DataW.TrodAll enc Tryz.prog W 0 (fun _ => true) true Tryz.f4.params.toList args.toList ds p := hA0
  rw [Tryz.params4] at hA hval
  obtain ⟨v0, vs0, d0, ds0, p0, q0, hargs, rfl, rfl, k0, r0⟩ := trodAll_cons hA
  obtain ⟨v1, vs1, d1, ds1, p1, q1, rfl, rfl, rfl, k1, r1⟩ := trodAll_cons r0
  obtain ⟨v2, vs2, d2, ds2, p2, q2, rfl, rfl, rfl, k2, r2⟩ := trodAll_cons r1
  obtain ⟨v3, vs3, d3, ds3, p3, q3, rfl, rfl, rfl, k3, r3⟩ := trodAll_cons r2
  obtain ⟨rfl, rfl, rfl⟩ := trodAll_nil r3
  obtain rfl : args = #[v0, v1, v2, v3] := by cases args; simp_all
  obtain ⟨rfl, rfl⟩ := trodVars_none hV
  have o0 := hval 0 23 v0 rfl rfl
  have lt0 : ∀ x ∈ p0, x.block < W.heap.size := by obtain ⟨m, hm⟩ := k0; exact DataW.trod_lt m _ _ _ hm
  obtain ⟨h0, rfl⟩ := arg_hash (t := 23) rfl o0 k0
  have o1 := hval 1 24 v1 rfl rfl
  have lt1 : ∀ x ∈ p1, x.block < W.heap.size := by obtain ⟨m, hm⟩ := k1; exact DataW.trod_lt m _ _ _ hm
  obtain ⟨A1, n1, c1, l1, rfl, w1, m1⟩ := arg_stp (tS := T_plexuslaw12_Step) (tSs := 24) reachApart_stepX ⟨rfl, rfl⟩ ⟨rfl, rfl⟩ ⟨rfl, rfl⟩ (by kernel_rfl) (by kernel_rfl) o1 k1
  have o2 := hval 2 24 v2 rfl rfl
  have lt2 : ∀ x ∈ p2, x.block < W.heap.size := by obtain ⟨m, hm⟩ := k2; exact DataW.trod_lt m _ _ _ hm
  obtain ⟨A2, n2, c2, l2, rfl, w2, m2⟩ := arg_stp (tS := T_plexuslaw12_Step) (tSs := 24) reachApart_stepX ⟨rfl, rfl⟩ ⟨rfl, rfl⟩ ⟨rfl, rfl⟩ (by kernel_rfl) (by kernel_rfl) o2 k2
  have o3 := hval 3 24 v3 rfl rfl
  have lt3 : ∀ x ∈ p3, x.block < W.heap.size := by obtain ⟨m, hm⟩ := k3; exact DataW.trod_lt m _ _ _ hm
  obtain ⟨A3, n3, c3, l3, rfl, w3, m3⟩ := arg_stp (tS := T_plexuslaw12_Step) (tSs := 24) reachApart_stepX ⟨rfl, rfl⟩ ⟨rfl, rfl⟩ ⟨rfl, rfl⟩ (by kernel_rfl) (by kernel_rfl) o3 k3
  have T : Tab W := tab_of (Lib.laidMet.reads (show laidMet Tryz.prog Rows.reachApartRow.laid W by rw [← MakeChecks.laidMetH_plain _ _ _ (by kernel_rfl)]; exact hX) (List.mem_singleton.2 rfl))
  clear hA0 hval0
  refine (reachApart_walk h0 A1 n1 c1 l1 A2 n2 c2 l2 A3 n3 c3 l3 W w1 (Nat.lt_of_le_of_lt m1 (by decide)) w2 (Nat.lt_of_le_of_lt m2 (by decide)) w3 (Nat.lt_of_le_of_lt m3 (by decide)) T).mono fun e W' ⟨he, bel⟩ => ?_
  subst he
  exact ⟨_, rfl, _, _, _, [], _, [], hW', trodAll_mk1 (shut_bool Tryz.underlying4 _), (trodAll_cons_mk (Below.trod laidOut (by kernel_rfl) (of_decide_eq_true (by kernel_rfl)) k0 bel lt0) (trodAll_cons_mk (Below.trod laidOut (by kernel_rfl) (of_decide_eq_true (by kernel_rfl)) k1 bel lt1) (trodAll_cons_mk (Below.trod laidOut (by kernel_rfl) (of_decide_eq_true (by kernel_rfl)) k2 bel lt2) (trodAll_cons_mk (Below.trod laidOut (by kernel_rfl) (of_decide_eq_true (by kernel_rfl)) k3 bel lt3) trodAll_mk0)))), rfl, bel.frame _, fun h => by cases h⟩

theorem reachApart_over : Rows.ReachApartSaid :=
  OpenClaim.holds_of_wide 4 Tryz.f4 rfl rfl rfl rfl rfl rfl rfl ⟨rfl, rfl, rfl, rfl, rfl⟩ rfl rfl rfl rfl rfl (by kernel_rfl) Tryz.func4 (by kernel_rfl)
    (of_decide_eq_true (by kernel_rfl)) (by unfold Func.isWrapper; first | (rw [if_pos (by decide +kernel)]; kernel_rfl) | (rw [if_neg (by decide +kernel)]; exact ⟨rfl, rfl⟩))
    (fun os started H enc _ => reachApart_lifted os started H enc)

theorem reachApart_holds : Rows.ReachApartCardSaid :=
  Claim7.holds_tied_plain_at .later [] [.data] true Rows.reachApartCard.stood.harness true reachApart_over (fun _ h => by cases h) (by kernel_rfl) (fun _ h => by cases h) reachApart_row_tie rfl ⟨rfl, rfl⟩ (by kernel_rfl) rfl
    (fun f fn hf hfn => by
      obtain rfl : f = 4 := Option.some.inj ((show Tryz.prog.funcNamed "plexus/plexuslaw12.ReachApart" = some 4 by kernel_rfl).symm.trans hf) |>.symm
      obtain rfl : fn = Tryz.f4 := (Option.some.inj (Tryz.func4.symm.trans hfn)).symm
      exact ⟨by kernel_rfl, fun j t ht => by
        rw [Tryz.params4] at ht
        have hm : t ∈ [23, 24, 24, 24] := by simpa using Array.mem_of_getElem? ht
        have hall : ([23, 24, 24, 24].all fun u => !Tryz.prog.wantsStandIn u) = true := by kernel_rfl
        exact (show Tryz.prog.wantsStandIn t = false by simpa using List.all_eq_true.1 hall t hm)⟩)
    (by kernel_rfl)
#print axioms reachApart_holds
end Go.Proofs.YtgfkpemnkmebkaaGreatDoor
