/-
  The parts of the functions' texts, as the small calculus tells them: each by the kernel. Written by our gen.py.
-/
import Derived.Test.YtgfkpemnkmebkaaDoorProg
import Derived.Test.YtgfkpemnkmebkaaDoorMA
set_option linter.unusedVariables false
namespace Go.Proofs.YtgfkpemnkmebkaaDoor
open Go Go.Lite
abbrev T_int : Nat := 3
abbrev T_bool : Nat := 4
abbrev T_uint8 : Nat := 5
abbrev T_api_Hash : Nat := 24
abbrev T_p_reach_Index : Nat := 26
abbrev T_sl_api_Hash : Nat := 28
abbrev T_api_Errno : Nat := 29
abbrev T_sl_plexusref10_Node : Nat := 40
abbrev T_p_dag_Graph : Nat := 54
abbrev T_map_api_Hash_int : Nat := 56
abbrev T_map_api_Hash_sl_api_Hash : Nat := 57
abbrev T_reach_Index : Nat := 59
abbrev T_struct_is_bool : Nat := 73
abbrev T_map_api_Hash_struct_is_bool : Nat := 74
abbrev T_plexusref10_Node : Nat := 85
abbrev T_sl_int : Nat := 88
abbrev T_p_dag_node : Nat := 95
abbrev T_sl_uint64 : Nat := 96
abbrev T_dag_row : Nat := 97
abbrev T_dag_node : Nat := 99
abbrev T_sl_p_dag_node : Nat := 100
abbrev T_dag_Graph : Nat := 102
abbrev T_uint64 : Nat := 103
abbrev T_tree_node : Nat := 105
abbrev T_sl_tree_node : Nat := 106
abbrev T_tree_Tree : Nat := 108
abbrev T_arr64_uint8 : Nat := 142
abbrev law12_ReachNil.id : Nat := 6
abbrev law12_known.id : Nat := 7
abbrev reach_New.id : Nat := 9
abbrev reach_Index_Add.id : Nat := 10
abbrev reach_Index_Chain.id : Nat := 11
abbrev reach_Index_Before.id : Nat := 12
abbrev reach_Index_Dealt.id : Nat := 13
abbrev reach_Index_Selected.id : Nat := 18
abbrev reach_Index_Cover.id : Nat := 19
abbrev reach_Index_Next.id : Nat := 23
abbrev reach_Index_Fork.id : Nat := 24
abbrev reach_Index_Up.id : Nat := 25
abbrev reach_Index_Graph.id : Nat := 26
abbrev reach_Index_Copy.id : Nat := 27
abbrev dag_New.id : Nat := 28
abbrev tree_New.id : Nat := 29
abbrev reach_Index_there.id : Nat := 30
abbrev dag_Graph_Has.id : Nat := 31
abbrev dag_Sorted.id : Nat := 32
abbrev reach_Index_has.id : Nat := 33
abbrev slices_Contains_of_api_Hash.id : Nat := 34
abbrev dag_Graph_Past.id : Nat := 35
abbrev dag_Graph_Add.id : Nat := 36
abbrev slices_Clip_of_api_Hash.id : Nat := 37
abbrev tree_Tree_Add.id : Nat := 38
abbrev tree_Tree_Under.id : Nat := 39
abbrev slices_ContainsFunc_of_api_Hash.id : Nat := 40
abbrev reach_Index_Before_fn1.id : Nat := 41
abbrev tree_Tree_Dealt.id : Nat := 42
abbrev reach_Index_Up_fn1.id : Nat := 57
abbrev dag_Graph_find.id : Nat := 62
abbrev slices_Compact_of_api_Hash.id : Nat := 63
abbrev dag_Compare.id : Nat := 66
abbrev reach_Index_has_fn1.id : Nat := 67
abbrev dag_row_or.id : Nat := 69
abbrev dag_Graph_there.id : Nat := 71
abbrev dag_Graph_Add_fn1.id : Nat := 72
abbrev dag_row_with.id : Nat := 73
abbrev tree_Tree_may.id : Nat := 74
abbrev tree_Tree_room.id : Nat := 75
abbrev tree_Tree_give.id : Nat := 76
abbrev tree_Tree_deal.id : Nat := 77
abbrev tree_Tree_in.id : Nat := 78
abbrev slices_Collect_of_api_Hash.id : Nat := 86
abbrev slices_SortFunc_of_api_Hash.id : Nat := 87
abbrev slices_Values_of_api_Hash_fn1.id : Nat := 88
abbrev bytes_Compare.id : Nat := 89
abbrev dag_row_all_fn1.id : Nat := 90
abbrev bits_TrailingZeros64.id : Nat := 91
abbrev tree_Tree_sizes.id : Nat := 92
abbrev bits_Mul64.id : Nat := 93
abbrev bits_Div64.id : Nat := 94
abbrev slices_AppendSeq_of_api_Hash.id : Nat := 95
abbrev bits_LeadingZeros64.id : Nat := 99
abbrev bits_Len64.id : Nat := 109
noncomputable abbrev tree_Tree_deal.fn : Func := Tryd.f77
noncomputable abbrev bits_Div64.fn : Func := Tryd.f94
theorem reach_Index_Up_fn1.at_ : Tryd.prog.funcs[(57 : Nat)]? = some Tryd.f57 := Tryd.func57
theorem dag_Compare.at_ : Tryd.prog.funcs[(66 : Nat)]? = some Tryd.f66 := Tryd.func66
theorem slices_Values_of_api_Hash_fn1.at_ : Tryd.prog.funcs[(88 : Nat)]? = some Tryd.f88 := Tryd.func88
theorem dag_row_all_fn1.at_ : Tryd.prog.funcs[(90 : Nat)]? = some Tryd.f90 := Tryd.func90
theorem bytealg_Compare.at_ : Tryd.prog.funcs[(98 : Nat)]? = some Tryd.f98 := Tryd.func98
theorem ng : NG Tryd.prog := by
  have h : (Tryd.prog.funcs.toList.all fun f => !(f.name == "runtime.NumGoroutine")) = true := by kernel_rfl
  intro g fn hf
  rw [List.all_eq_true] at h
  have := h fn (by simpa using Array.mem_of_getElem? hf)
  simpa using this
theorem mix : Tryd.prog.follows .mixedOrders = true := by kernel_rfl
/-! ### 20: plexus/plexusref10.Equal -/
def ref10_Equal.k : List Nat := []
def ref10_Equal.q1 (K : Value → World → Prop) : Post := (blockQ 0 (uses (sR (sR (sR (body Tryd.f20)))) ++ (resSlots Tryd.f20)) (thenQ (fun ρ_ w_ => match cutAt ref10_Equal.k (sR (sR (sR (body Tryd.f20)))) with | true => Holds none [] Tryd.prog 26 (sR (sR (sR (body Tryd.f20)))) (funQ Tryd.prog Tryd.f20 K) ρ_ w_ | false => codeW none [] Tryd.prog 26 ref10_Equal.k (sR (sR (sR (body Tryd.f20)))) (resSlots Tryd.f20) (funQ Tryd.prog Tryd.f20 K) ρ_ w_) (funQ Tryd.prog Tryd.f20 K)))
/-! ### 31: (*plexus/dag.Graph).Has -/
def dag_Graph_Has.k : List Nat := []
def dag_Graph_Has.W (g1 : Option Addr) (id2 : Array Value) (K : Value → World → Prop) (w : World) : Prop :=
  let w_3 : World := w.alloc (.cells id2 24); ∃ t64 : Array Value, (t64.size = 32 ∧ Cells w_3 (⟨w.heap.size, 0, none⟩ : Addr) t64) ∧ Ret Tryd.prog 62 #[.pointer g1, .agg t64] w_3 fun v5 w_6 => ∃ t77 : Option Addr, v5 = .pointer t77 ∧ K (.bool (!(t77).isNone)) w_6
theorem dag_Graph_Has.s (g1 : Option Addr) (id2 : Array Value) (K : Value → World → Prop) (w : World) : (codeW none [] Tryd.prog Tryd.f31.ntmps dag_Graph_Has.k (body Tryd.f31) (resSlots Tryd.f31) (funQ Tryd.prog Tryd.f31 K) (argEnv [.pointer g1, .agg id2] 0) w) = dag_Graph_Has.W g1 id2 K w := by kernel_rfl
theorem dag_Graph_Has.of {g1 : Option Addr} {id2 : Array Value} {K : Value → World → Prop} {w : World} (h : dag_Graph_Has.W g1 id2 K w) : Ret Tryd.prog 31 #[.pointer g1, .agg id2] w K :=
  ret_of_eq (C := dag_Graph_Has.k) (fn := Tryd.f31) (c := body Tryd.f31) ng mix Tryd.func31 (by kernel_rfl) (by kernel_rfl) (dag_Graph_Has.s g1 id2 K w) h
/-! ### 48: plexus/plexusref10.Sorted -/
/-! ### 51: plexus/plexusref10.In -/
/-! ### 56: (*plexus/dag.Graph).Root -/
/-! ### 62: (*plexus/dag.Graph).find -/
def dag_Graph_find.k : List Nat := []
def dag_Graph_find.W (g1 : Option Addr) (id2 : Array Value) (K : Value → World → Prop) (w : World) : Prop :=
  let w_3 : World := w.alloc (.cells id2 24); Ret Tryd.prog 71 #[.pointer g1] w_3 fun v4 w_5 => ∃ t86 : Bool, v4 = .bool t86 ∧ Split t86 (let w_7 : World := w_5.drew; Is g1 fun a8 : Addr => ∃ t139 : Option Nat, w_7.cell? (a8.add 1) = some (.map t139) ∧ ∃ t1410 : Array Value, (t1410.size = 32 ∧ Cells w_7 (⟨w.heap.size, 0, none⟩ : Addr) t1410) ∧ ∃ t1511 : Int, ∃ b12 : Bool, (Instr.lookup 56 (.map t139) (.agg t1410) true).run Tryd.prog w_7 = .ok (.tuple #[.int .i64 t1511, .bool b12]) w_7 ∧ Split b12 (Is g1 fun a13 : Addr => ∃ A_t2214 : Option Addr, ∃ n_t2214 : Nat, ∃ c_t2214 : Nat, w_7.cell? (a13.add 0) = some (.slice A_t2214 n_t2214 c_t2214) ∧ (0 ≤ t1511 ∧ t1511 < (n_t2214 : Int)) ∧ Is A_t2214 fun a15 : Addr => ∃ t2516 : Option Addr, w_7.cell? (a15.add (t1511.toNat * 1)) = some (.pointer t2516) ∧ K (.pointer t2516) w_7) (K (.pointer none) w_7)) (K (.pointer none) w_5)
theorem dag_Graph_find.s (g1 : Option Addr) (id2 : Array Value) (K : Value → World → Prop) (w : World) : (codeW none [] Tryd.prog Tryd.f62.ntmps dag_Graph_find.k (body Tryd.f62) (resSlots Tryd.f62) (funQ Tryd.prog Tryd.f62 K) (argEnv [.pointer g1, .agg id2] 0) w) = dag_Graph_find.W g1 id2 K w := by kernel_rfl
theorem dag_Graph_find.of {g1 : Option Addr} {id2 : Array Value} {K : Value → World → Prop} {w : World} (h : dag_Graph_find.W g1 id2 K w) : Ret Tryd.prog 62 #[.pointer g1, .agg id2] w K :=
  ret_of_eq (C := dag_Graph_find.k) (fn := Tryd.f62) (c := body Tryd.f62) ng mix Tryd.func62 (by kernel_rfl) (by kernel_rfl) (dag_Graph_find.s g1 id2 K w) h
/-! ### 63: slices.Compact[[]plexus/api.Hash,plexus/api.Hash] -/
def slices_Compact_of_api_Hash.k : List Nat := []
def slices_Compact_of_api_Hash.q1 (K : Value → World → Prop) : Post := (blockQ 0 (uses (sR (sR (sR (body Tryd.f63)))) ++ (resSlots Tryd.f63)) (thenQ (fun ρ_ w_ => match cutAt slices_Compact_of_api_Hash.k (sR (sR (sR (body Tryd.f63)))) with | true => Holds none [] Tryd.prog 61 (sR (sR (sR (body Tryd.f63)))) (funQ Tryd.prog Tryd.f63 K) ρ_ w_ | false => codeW none [] Tryd.prog 61 slices_Compact_of_api_Hash.k (sR (sR (sR (body Tryd.f63)))) (resSlots Tryd.f63) (funQ Tryd.prog Tryd.f63 K) ρ_ w_) (funQ Tryd.prog Tryd.f63 K)))
def slices_Compact_of_api_Hash.e1 (A_s2 : Option Addr) (n_s2 : Nat) (c_s2 : Nat) (s : (Option Addr) × Nat × Nat × Int) : Env := [(0, .slice A_s2 n_s2 c_s2), (2, .slice s.1 s.2.1 s.2.2.1), (3, .int .i64 s.2.2.2)]
def slices_Compact_of_api_Hash.u1 : List Nat := [0, 2, 3]
def slices_Compact_of_api_Hash.q2 (Q : Post) : Post := (blockQ 2 (uses (sR (sR (cT (sR (bB (sL (sR (lB (bB (sR (sL (sR (sR (body Tryd.f63)))))))))))))) ++ (uses (sR (sR (lB (bB (sR (sL (sR (sR (body Tryd.f63))))))))) ++ slices_Compact_of_api_Hash.u1)) (thenQ (fun ρ_ w_ => match cutAt slices_Compact_of_api_Hash.k (sR (sR (cT (sR (bB (sL (sR (lB (bB (sR (sL (sR (sR (body Tryd.f63)))))))))))))) with | true => Holds none [] Tryd.prog 61 (sR (sR (cT (sR (bB (sL (sR (lB (bB (sR (sL (sR (sR (body Tryd.f63)))))))))))))) (blockQ 1 (uses (sR (sR (lB (bB (sR (sL (sR (sR (body Tryd.f63))))))))) ++ slices_Compact_of_api_Hash.u1) (thenQ (fun ρ_ w_ => match cutAt slices_Compact_of_api_Hash.k (sR (sR (lB (bB (sR (sL (sR (sR (body Tryd.f63))))))))) with | true => Holds none [] Tryd.prog 61 (sR (sR (lB (bB (sR (sL (sR (sR (body Tryd.f63))))))))) Q ρ_ w_ | false => codeW none [] Tryd.prog 61 slices_Compact_of_api_Hash.k (sR (sR (lB (bB (sR (sL (sR (sR (body Tryd.f63))))))))) slices_Compact_of_api_Hash.u1 Q ρ_ w_) Q)) ρ_ w_ | false => codeW none [] Tryd.prog 61 slices_Compact_of_api_Hash.k (sR (sR (cT (sR (bB (sL (sR (lB (bB (sR (sL (sR (sR (body Tryd.f63)))))))))))))) (uses (sR (sR (lB (bB (sR (sL (sR (sR (body Tryd.f63))))))))) ++ slices_Compact_of_api_Hash.u1) (blockQ 1 (uses (sR (sR (lB (bB (sR (sL (sR (sR (body Tryd.f63))))))))) ++ slices_Compact_of_api_Hash.u1) (thenQ (fun ρ_ w_ => match cutAt slices_Compact_of_api_Hash.k (sR (sR (lB (bB (sR (sL (sR (sR (body Tryd.f63))))))))) with | true => Holds none [] Tryd.prog 61 (sR (sR (lB (bB (sR (sL (sR (sR (body Tryd.f63))))))))) Q ρ_ w_ | false => codeW none [] Tryd.prog 61 slices_Compact_of_api_Hash.k (sR (sR (lB (bB (sR (sL (sR (sR (body Tryd.f63))))))))) slices_Compact_of_api_Hash.u1 Q ρ_ w_) Q)) ρ_ w_) (blockQ 1 (uses (sR (sR (lB (bB (sR (sL (sR (sR (body Tryd.f63))))))))) ++ slices_Compact_of_api_Hash.u1) (thenQ (fun ρ_ w_ => match cutAt slices_Compact_of_api_Hash.k (sR (sR (lB (bB (sR (sL (sR (sR (body Tryd.f63))))))))) with | true => Holds none [] Tryd.prog 61 (sR (sR (lB (bB (sR (sL (sR (sR (body Tryd.f63))))))))) Q ρ_ w_ | false => codeW none [] Tryd.prog 61 slices_Compact_of_api_Hash.k (sR (sR (lB (bB (sR (sL (sR (sR (body Tryd.f63))))))))) slices_Compact_of_api_Hash.u1 Q ρ_ w_) Q))))
def slices_Compact_of_api_Hash.e2 (A_s13 : Option Addr) (n_s13 : Nat) (c_s13 : Nat) (A_t214 : Option Addr) (n_t214 : Nat) (c_t214 : Nat) (A_s216 : Option Addr) (n_s216 : Nat) (c_s216 : Nat) (s : Int × Int) : Env := [(0, .slice A_s13 n_s13 c_s13), (2, .slice A_t214 n_t214 c_t214), (3, .int .i64 s.1), (4, .slice A_s216 n_s216 c_s216), (5, .int .i64 s.2)]
def slices_Compact_of_api_Hash.u2 : List Nat := [0, 2, 3, 4, 5]
def slices_Compact_of_api_Hash.W (A_s1 : Option Addr) (n_s1 : Nat) (c_s1 : Nat) (K : Value → World → Prop) (w : World) : Prop :=
  Split (decide ((n_s1 : Int) < (2 : Int))) (K (.slice A_s1 n_s1 c_s1) w) (Holds none [] Tryd.prog 61 (.loop (lB (bB (sR (sL (sR (sR (body Tryd.f63)))))))) (slices_Compact_of_api_Hash.q1 K) [(0, .slice A_s1 n_s1 c_s1), (2, .slice none 0 0), (3, .int .i64 1)] w)
theorem slices_Compact_of_api_Hash.s (A_s1 : Option Addr) (n_s1 : Nat) (c_s1 : Nat) (K : Value → World → Prop) (w : World) : (codeW none [] Tryd.prog Tryd.f63.ntmps slices_Compact_of_api_Hash.k (body Tryd.f63) (resSlots Tryd.f63) (funQ Tryd.prog Tryd.f63 K) (argEnv [.slice A_s1 n_s1 c_s1] 0) w) = slices_Compact_of_api_Hash.W A_s1 n_s1 c_s1 K w := by kernel_rfl
theorem slices_Compact_of_api_Hash.of {A_s1 : Option Addr} {n_s1 : Nat} {c_s1 : Nat} {K : Value → World → Prop} {w : World} (h : slices_Compact_of_api_Hash.W A_s1 n_s1 c_s1 K w) : Ret Tryd.prog 63 #[.slice A_s1 n_s1 c_s1] w K :=
  ret_of_eq (C := slices_Compact_of_api_Hash.k) (fn := Tryd.f63) (c := body Tryd.f63) ng mix Tryd.func63 (by kernel_rfl) (by kernel_rfl) (slices_Compact_of_api_Hash.s A_s1 n_s1 c_s1 K w) h
def slices_Compact_of_api_Hash.B1 (A_s2 : Option Addr) (n_s2 : Nat) (c_s2 : Nat) (A_t23 : Option Addr) (n_t23 : Nat) (c_t23 : Nat) (k4 : Int) (Q : Post) (w : World) : Prop :=
  Split (decide (k4 < (n_s2 : Int))) (let w_5 : World := w.drew; (0 ≤ k4 ∧ k4 < (n_s2 : Int)) ∧ Is A_s2 fun a6 : Addr => ∃ t197 : Array Value, (t197.size = 32 ∧ Cells w_5 (a6.add (k4.toNat * 32)) t197) ∧ (0 ≤ (IntKind.i64.wrap (k4 - (1 : Int))) ∧ (IntKind.i64.wrap (k4 - (1 : Int))) < (n_s2 : Int)) ∧ Is A_s2 fun a8 : Addr => ∃ t249 : Array Value, (t249.size = 32 ∧ Cells w_5 (a8.add ((IntKind.i64.wrap (k4 - (1 : Int))).toNat * 32)) t249) ∧ (isInts .u8 32 t197 ∧ isInts .u8 32 t249) ∧ Split (sameInts t197 t249) ((0 ≤ k4 ∧ k4 ≤ (n_s2 : Int)) ∧ Holds none [] Tryd.prog 61 (.loop (lB (bB (sR (sL (sR (cT (sR (bB (sL (sR (lB (bB (sR (sL (sR (sR (body Tryd.f63)))))))))))))))))) (slices_Compact_of_api_Hash.q2 Q) [(0, .slice A_s2 n_s2 c_s2), (2, .slice A_t23 n_t23 c_t23), (3, .int .i64 k4), (4, .slice (if c_s2 = k4.toNat then A_s2 else A_s2.map (·.add (k4.toNat * 32))) (n_s2 - k4.toNat) (c_s2 - k4.toNat)), (5, .int .i64 1)] w_5) (Q .normal [(0, .slice A_s2 n_s2 c_s2), (2, .slice A_t23 n_t23 c_t23), (3, .int .i64 (IntKind.i64.wrap (k4 + (1 : Int))))] w_5)) (Q (.exit 0) [(0, .slice A_s2 n_s2 c_s2), (2, .slice A_t23 n_t23 c_t23), (3, .int .i64 k4)] w)
theorem slices_Compact_of_api_Hash.b1 (A_s2 : Option Addr) (n_s2 : Nat) (c_s2 : Nat) (A_t23 : Option Addr) (n_t23 : Nat) (c_t23 : Nat) (k4 : Int) (Q : Post) (w : World) : (codeW none [] Tryd.prog 61 slices_Compact_of_api_Hash.k (lB (bB (sR (sL (sR (sR (body Tryd.f63))))))) slices_Compact_of_api_Hash.u1 Q [(0, .slice A_s2 n_s2 c_s2), (2, .slice A_t23 n_t23 c_t23), (3, .int .i64 k4)] w) = slices_Compact_of_api_Hash.B1 A_s2 n_s2 c_s2 A_t23 n_t23 c_t23 k4 Q w := by kernel_rfl
theorem slices_Compact_of_api_Hash.loop1 {A_s2 : Option Addr} {n_s2 : Nat} {c_s2 : Nat} (I : (Option Addr) × Nat × Nat × Int → World → Prop) (μ : (Option Addr) × Nat × Nat × Int → World → Nat) (s : (Option Addr) × Nat × Nat × Int) {Q : Post} {w : World} (h0 : I s w)
    (round : ∀ s w, I s w → slices_Compact_of_api_Hash.B1 A_s2 n_s2 c_s2 (s.1) (s.2.1) (s.2.2.1) (s.2.2.2) (roundQ (slices_Compact_of_api_Hash.e1 A_s2 n_s2 c_s2) I μ s w Q) w) : Holds none [] Tryd.prog 61 (.loop (lB (bB (sR (sL (sR (sR (body Tryd.f63)))))))) Q (slices_Compact_of_api_Hash.e1 A_s2 n_s2 c_s2 s) w :=
  loop_of_eq ng mix (slices_Compact_of_api_Hash.e1 A_s2 n_s2 c_s2) I μ slices_Compact_of_api_Hash.k slices_Compact_of_api_Hash.u1 s (fun s Q w => slices_Compact_of_api_Hash.B1 A_s2 n_s2 c_s2 (s.1) (s.2.1) (s.2.2.1) (s.2.2.2) Q w) (fun s Q w => slices_Compact_of_api_Hash.b1 A_s2 n_s2 c_s2 (s.1) (s.2.1) (s.2.2.1) (s.2.2.2) Q w) h0 round
def slices_Compact_of_api_Hash.X1_0 (A_s10 : Option Addr) (n_s10 : Nat) (c_s10 : Nat) (A_t211 : Option Addr) (n_t211 : Nat) (c_t211 : Nat) (k12 : Int) (K : Value → World → Prop) (w : World) : Prop :=
  K (.slice A_s10 n_s10 c_s10) w
theorem slices_Compact_of_api_Hash.x1_0 (A_s10 : Option Addr) (n_s10 : Nat) (c_s10 : Nat) (A_t211 : Option Addr) (n_t211 : Nat) (c_t211 : Nat) (k12 : Int) (K : Value → World → Prop) (w : World) : (slices_Compact_of_api_Hash.q1 K (.exit 0) [(0, .slice A_s10 n_s10 c_s10), (2, .slice A_t211 n_t211 c_t211), (3, .int .i64 k12)] w) = slices_Compact_of_api_Hash.X1_0 A_s10 n_s10 c_s10 A_t211 n_t211 c_t211 k12 K w := by kernel_rfl
def slices_Compact_of_api_Hash.B2 (A_s13 : Option Addr) (n_s13 : Nat) (c_s13 : Nat) (A_t214 : Option Addr) (n_t214 : Nat) (c_t214 : Nat) (k15 : Int) (A_s216 : Option Addr) (n_s216 : Nat) (c_s216 : Nat) (k217 : Int) (Q : Post) (w : World) : Prop :=
  Split (decide (k217 < (n_s216 : Int))) (let w_18 : World := w.drew; (0 ≤ k217 ∧ k217 < (n_s216 : Int)) ∧ Is A_s216 fun a19 : Addr => ∃ t3820 : Array Value, (t3820.size = 32 ∧ Cells w_18 (a19.add (k217.toNat * 32)) t3820) ∧ (0 ≤ (IntKind.i64.wrap (k217 - (1 : Int))) ∧ (IntKind.i64.wrap (k217 - (1 : Int))) < (n_s216 : Int)) ∧ Is A_s216 fun a21 : Addr => ∃ t4322 : Array Value, (t4322.size = 32 ∧ Cells w_18 (a21.add ((IntKind.i64.wrap (k217 - (1 : Int))).toNat * 32)) t4322) ∧ (isInts .u8 32 t3820 ∧ isInts .u8 32 t4322) ∧ Split (!(sameInts t3820 t4322)) ((0 ≤ k217 ∧ k217 < (n_s216 : Int)) ∧ Is A_s216 fun a23 : Addr => ∃ t5024 : Array Value, (t5024.size = 32 ∧ Cells w_18 (a23.add (k217.toNat * 32)) t5024) ∧ (0 ≤ k15 ∧ k15 < (n_s13 : Int)) ∧ Is A_s13 fun a25 : Addr => (t5024.size = 32 ∧ (∀ c26 ∈ t5024.toList, c26.oneCell' = true) ∧ ∀ j27, j27 < 32 → Wr w_18 ((a25.add (k15.toNat * 32)).add j27)) ∧ let w_28 : World := setCells w_18 (a25.add (k15.toNat * 32)) t5024.toList 0; Q .normal [(0, .slice A_s13 n_s13 c_s13), (2, .slice A_t214 n_t214 c_t214), (3, .int .i64 (IntKind.i64.wrap (k15 + (1 : Int)))), (4, .slice A_s216 n_s216 c_s216), (5, .int .i64 (IntKind.i64.wrap (k217 + (1 : Int))))] w_28) (Q .normal [(0, .slice A_s13 n_s13 c_s13), (2, .slice A_t214 n_t214 c_t214), (3, .int .i64 k15), (4, .slice A_s216 n_s216 c_s216), (5, .int .i64 (IntKind.i64.wrap (k217 + (1 : Int))))] w_18)) (Q (.exit 2) [(0, .slice A_s13 n_s13 c_s13), (2, .slice A_t214 n_t214 c_t214), (3, .int .i64 k15), (4, .slice A_s216 n_s216 c_s216), (5, .int .i64 k217)] w)
theorem slices_Compact_of_api_Hash.b2 (A_s13 : Option Addr) (n_s13 : Nat) (c_s13 : Nat) (A_t214 : Option Addr) (n_t214 : Nat) (c_t214 : Nat) (k15 : Int) (A_s216 : Option Addr) (n_s216 : Nat) (c_s216 : Nat) (k217 : Int) (Q : Post) (w : World) : (codeW none [] Tryd.prog 61 slices_Compact_of_api_Hash.k (lB (bB (sR (sL (sR (cT (sR (bB (sL (sR (lB (bB (sR (sL (sR (sR (body Tryd.f63))))))))))))))))) slices_Compact_of_api_Hash.u2 Q [(0, .slice A_s13 n_s13 c_s13), (2, .slice A_t214 n_t214 c_t214), (3, .int .i64 k15), (4, .slice A_s216 n_s216 c_s216), (5, .int .i64 k217)] w) = slices_Compact_of_api_Hash.B2 A_s13 n_s13 c_s13 A_t214 n_t214 c_t214 k15 A_s216 n_s216 c_s216 k217 Q w := by kernel_rfl
theorem slices_Compact_of_api_Hash.loop2 {A_s13 : Option Addr} {n_s13 : Nat} {c_s13 : Nat} {A_t214 : Option Addr} {n_t214 : Nat} {c_t214 : Nat} {A_s216 : Option Addr} {n_s216 : Nat} {c_s216 : Nat} (I : Int × Int → World → Prop) (μ : Int × Int → World → Nat) (s : Int × Int) {Q : Post} {w : World} (h0 : I s w)
    (round : ∀ s w, I s w → slices_Compact_of_api_Hash.B2 A_s13 n_s13 c_s13 A_t214 n_t214 c_t214 (s.1) A_s216 n_s216 c_s216 (s.2) (roundQ (slices_Compact_of_api_Hash.e2 A_s13 n_s13 c_s13 A_t214 n_t214 c_t214 A_s216 n_s216 c_s216) I μ s w Q) w) : Holds none [] Tryd.prog 61 (.loop (lB (bB (sR (sL (sR (cT (sR (bB (sL (sR (lB (bB (sR (sL (sR (sR (body Tryd.f63)))))))))))))))))) Q (slices_Compact_of_api_Hash.e2 A_s13 n_s13 c_s13 A_t214 n_t214 c_t214 A_s216 n_s216 c_s216 s) w :=
  loop_of_eq ng mix (slices_Compact_of_api_Hash.e2 A_s13 n_s13 c_s13 A_t214 n_t214 c_t214 A_s216 n_s216 c_s216) I μ slices_Compact_of_api_Hash.k slices_Compact_of_api_Hash.u2 s (fun s Q w => slices_Compact_of_api_Hash.B2 A_s13 n_s13 c_s13 A_t214 n_t214 c_t214 (s.1) A_s216 n_s216 c_s216 (s.2) Q w) (fun s Q w => slices_Compact_of_api_Hash.b2 A_s13 n_s13 c_s13 A_t214 n_t214 c_t214 (s.1) A_s216 n_s216 c_s216 (s.2) Q w) h0 round
def slices_Compact_of_api_Hash.X2_2 (A_s29 : Option Addr) (n_s29 : Nat) (c_s29 : Nat) (A_t230 : Option Addr) (n_t230 : Nat) (c_t230 : Nat) (k31 : Int) (A_s232 : Option Addr) (n_s232 : Nat) (c_s232 : Nat) (k233 : Int) (Q : Post) (w : World) : Prop :=
  (0 ≤ k31 ∧ k31 ≤ (n_s29 : Int)) ∧ ∃ (v34 : Value) (w_35 : World), (Builtin.clear_ #[28] 0 #[.slice (if c_s29 = k31.toNat then A_s29 else A_s29.map (·.add (k31.toNat * 32))) (n_s29 - k31.toNat) (c_s29 - k31.toNat)]).run Tryd.prog w = .ok v34 w_35 ∧ (0 ≤ k31 ∧ k31 ≤ (c_s29 : Int)) ∧ Q .ret [(0, .slice A_s29 n_s29 c_s29), (2, .slice (if c_s29 = 0 then A_s29 else A_s29.map (·.add (0 * 32))) (k31.toNat - 0) (c_s29 - 0)), (3, .int .i64 k31)] w_35
theorem slices_Compact_of_api_Hash.x2_2 (A_s29 : Option Addr) (n_s29 : Nat) (c_s29 : Nat) (A_t230 : Option Addr) (n_t230 : Nat) (c_t230 : Nat) (k31 : Int) (A_s232 : Option Addr) (n_s232 : Nat) (c_s232 : Nat) (k233 : Int) (Q : Post) (w : World) : (slices_Compact_of_api_Hash.q2 Q (.exit 2) [(0, .slice A_s29 n_s29 c_s29), (2, .slice A_t230 n_t230 c_t230), (3, .int .i64 k31), (4, .slice A_s232 n_s232 c_s232), (5, .int .i64 k233)] w) = slices_Compact_of_api_Hash.X2_2 A_s29 n_s29 c_s29 A_t230 n_t230 c_t230 k31 A_s232 n_s232 c_s232 k233 Q w := by kernel_rfl
/-! ### 66: plexus/dag.Compare -/
def dag_Compare.k : List Nat := []
def dag_Compare.W (a1 : Array Value) (b2 : Array Value) (K : Value → World → Prop) (w : World) : Prop :=
  let w_3 : World := w.alloc (.cells a1 24); let w_4 : World := w_3.alloc (.cells b2 24); let w_5 : World := w_4.drew; Ret Tryd.prog 89 #[.slice (some (if 32 = 0 then (⟨w.heap.size, 0, none⟩ : Addr) else (⟨w.heap.size, 0, none⟩ : Addr).add (0 * 1))) (32 - 0) (32 - 0), .slice (some (if 32 = 0 then (⟨w_3.heap.size, 0, none⟩ : Addr) else (⟨w_3.heap.size, 0, none⟩ : Addr).add (0 * 1))) (32 - 0) (32 - 0)] w_5 fun v6 w_7 => ∃ t78 : Int, v6 = .int .i64 t78 ∧ K (.int .i64 t78) w_7
theorem dag_Compare.s (a1 : Array Value) (b2 : Array Value) (K : Value → World → Prop) (w : World) : (codeW none [] Tryd.prog Tryd.f66.ntmps dag_Compare.k (body Tryd.f66) (resSlots Tryd.f66) (funQ Tryd.prog Tryd.f66 K) (argEnv [.agg a1, .agg b2] 0) w) = dag_Compare.W a1 b2 K w := by kernel_rfl
theorem dag_Compare.of {a1 : Array Value} {b2 : Array Value} {K : Value → World → Prop} {w : World} (h : dag_Compare.W a1 b2 K w) : Ret Tryd.prog 66 #[.agg a1, .agg b2] w K :=
  ret_of_eq (C := dag_Compare.k) (fn := Tryd.f66) (c := body Tryd.f66) ng mix Tryd.func66 (by kernel_rfl) (by kernel_rfl) (dag_Compare.s a1 b2 K w) h
/-! ### 69: (plexus/dag.row).or -/
def dag_row_or.k : List Nat := []
def dag_row_or.q1 (K : Value → World → Prop) : Post := (blockQ 0 (uses (sR (sR (body Tryd.f69))) ++ (resSlots Tryd.f69)) (thenQ (fun ρ_ w_ => match cutAt dag_row_or.k (sR (sR (body Tryd.f69))) with | true => Holds none [] Tryd.prog 30 (sR (sR (body Tryd.f69))) (funQ Tryd.prog Tryd.f69 K) ρ_ w_ | false => codeW none [] Tryd.prog 30 dag_row_or.k (sR (sR (body Tryd.f69))) (resSlots Tryd.f69) (funQ Tryd.prog Tryd.f69 K) ρ_ w_) (funQ Tryd.prog Tryd.f69 K)))
def dag_row_or.e1 (A_t44 : Option Addr) (n_t44 : Nat) (c_t44 : Nat) (A_t75 : Option Addr) (n_t75 : Nat) (c_t75 : Nat) (t86 : Int) (s : (Option Addr) × Nat × Nat × Int) : Env := [(0, .slice s.1 s.2.1 s.2.2.1), (4, .slice A_t44 n_t44 c_t44), (7, .slice A_t75 n_t75 c_t75), (8, .int .i64 t86), (9, .int .i64 s.2.2.2)]
def dag_row_or.u1 : List Nat := [0, 4, 7, 8, 9]
def dag_row_or.W (A_r1 : Option Addr) (n_r1 : Nat) (c_r1 : Nat) (A_o2 : Option Addr) (n_o2 : Nat) (c_o2 : Nat) (K : Value → World → Prop) (w : World) : Prop :=
  Holds none [] Tryd.prog 30 (.loop (lB (bB (sR (sL (sR (body Tryd.f69))))))) (dag_row_or.q1 K) [(0, .slice A_r1 n_r1 c_r1), (4, .slice none 0 0), (7, .slice A_o2 n_o2 c_o2), (8, .int .i64 (n_o2 : Int)), (9, .int .i64 0)] w
theorem dag_row_or.s (A_r1 : Option Addr) (n_r1 : Nat) (c_r1 : Nat) (A_o2 : Option Addr) (n_o2 : Nat) (c_o2 : Nat) (K : Value → World → Prop) (w : World) : (codeW none [] Tryd.prog Tryd.f69.ntmps dag_row_or.k (body Tryd.f69) (resSlots Tryd.f69) (funQ Tryd.prog Tryd.f69 K) (argEnv [.slice A_r1 n_r1 c_r1, .slice A_o2 n_o2 c_o2] 0) w) = dag_row_or.W A_r1 n_r1 c_r1 A_o2 n_o2 c_o2 K w := by kernel_rfl
theorem dag_row_or.of {A_r1 : Option Addr} {n_r1 : Nat} {c_r1 : Nat} {A_o2 : Option Addr} {n_o2 : Nat} {c_o2 : Nat} {K : Value → World → Prop} {w : World} (h : dag_row_or.W A_r1 n_r1 c_r1 A_o2 n_o2 c_o2 K w) : Ret Tryd.prog 69 #[.slice A_r1 n_r1 c_r1, .slice A_o2 n_o2 c_o2] w K :=
  ret_of_eq (C := dag_row_or.k) (fn := Tryd.f69) (c := body Tryd.f69) ng mix Tryd.func69 (by kernel_rfl) (by kernel_rfl) (dag_row_or.s A_r1 n_r1 c_r1 A_o2 n_o2 c_o2 K w) h
def dag_row_or.B1 (A_r3 : Option Addr) (n_r3 : Nat) (c_r3 : Nat) (A_t44 : Option Addr) (n_t44 : Nat) (c_t44 : Nat) (A_t75 : Option Addr) (n_t75 : Nat) (c_t75 : Nat) (t86 : Int) (t97 : Int) (Q : Post) (w : World) : Prop :=
  Split (decide (t97 < t86)) ((0 ≤ t97 ∧ t97 < (n_t75 : Int)) ∧ Is A_t75 fun a8 : Addr => ∃ t139 : Int, w.cell? (a8.add (t97.toNat * 1)) = some (.int .u64 t139) ∧ Split (t97 == (n_r3 : Int)) (let w_10 : World := w.alloc (.cells #[.int .u64 0] 103); ∃ (A_t2011 : Option Addr) (n_t2011 c_t2011 : Nat) (w_12 : World), (Builtin.append_ #[97, 97] 97 #[.slice A_r3 n_r3 c_r3, .slice (some (⟨w.heap.size, 0, none⟩ : Addr)) 1 1]).run Tryd.prog w_10 = .ok (.slice A_t2011 n_t2011 c_t2011) w_12 ∧ (0 ≤ t97 ∧ t97 < (n_t2011 : Int)) ∧ Is A_t2011 fun a13 : Addr => ∃ t2414 : Int, w_12.cell? (a13.add (t97.toNat * 1)) = some (.int .u64 t2414) ∧ (0 ≤ t97 ∧ t97 < (n_t2011 : Int)) ∧ Is A_t2011 fun a15 : Addr => Wr w_12 (a15.add (t97.toNat * 1)) ∧ let w_16 : World := w_12.setCell (a15.add (t97.toNat * 1)) (.int .u64 (IntKind.u64.wrap ((BitVec.ofInt 64 t2414 ||| BitVec.ofInt 64 t139).toNat))); Q .normal [(0, .slice A_t2011 n_t2011 c_t2011), (4, .slice A_t44 n_t44 c_t44), (7, .slice A_t75 n_t75 c_t75), (8, .int .i64 t86), (9, .int .i64 (IntKind.i64.wrap (t97 + (1 : Int))))] w_16) ((0 ≤ t97 ∧ t97 < (n_r3 : Int)) ∧ Is A_r3 fun a17 : Addr => ∃ t2418 : Int, w.cell? (a17.add (t97.toNat * 1)) = some (.int .u64 t2418) ∧ (0 ≤ t97 ∧ t97 < (n_r3 : Int)) ∧ Is A_r3 fun a19 : Addr => Wr w (a19.add (t97.toNat * 1)) ∧ let w_20 : World := w.setCell (a19.add (t97.toNat * 1)) (.int .u64 (IntKind.u64.wrap ((BitVec.ofInt 64 t2418 ||| BitVec.ofInt 64 t139).toNat))); Q .normal [(0, .slice A_r3 n_r3 c_r3), (4, .slice A_t44 n_t44 c_t44), (7, .slice A_t75 n_t75 c_t75), (8, .int .i64 t86), (9, .int .i64 (IntKind.i64.wrap (t97 + (1 : Int))))] w_20)) (Q (.exit 0) [(0, .slice A_r3 n_r3 c_r3), (4, .slice A_t44 n_t44 c_t44), (7, .slice A_t75 n_t75 c_t75), (8, .int .i64 t86), (9, .int .i64 t97)] w)
theorem dag_row_or.b1 (A_r3 : Option Addr) (n_r3 : Nat) (c_r3 : Nat) (A_t44 : Option Addr) (n_t44 : Nat) (c_t44 : Nat) (A_t75 : Option Addr) (n_t75 : Nat) (c_t75 : Nat) (t86 : Int) (t97 : Int) (Q : Post) (w : World) : (codeW none [] Tryd.prog 30 dag_row_or.k (lB (bB (sR (sL (sR (body Tryd.f69)))))) dag_row_or.u1 Q [(0, .slice A_r3 n_r3 c_r3), (4, .slice A_t44 n_t44 c_t44), (7, .slice A_t75 n_t75 c_t75), (8, .int .i64 t86), (9, .int .i64 t97)] w) = dag_row_or.B1 A_r3 n_r3 c_r3 A_t44 n_t44 c_t44 A_t75 n_t75 c_t75 t86 t97 Q w := by kernel_rfl
theorem dag_row_or.loop1 {A_t44 : Option Addr} {n_t44 : Nat} {c_t44 : Nat} {A_t75 : Option Addr} {n_t75 : Nat} {c_t75 : Nat} {t86 : Int} (I : (Option Addr) × Nat × Nat × Int → World → Prop) (μ : (Option Addr) × Nat × Nat × Int → World → Nat) (s : (Option Addr) × Nat × Nat × Int) {Q : Post} {w : World} (h0 : I s w)
    (round : ∀ s w, I s w → dag_row_or.B1 (s.1) (s.2.1) (s.2.2.1) A_t44 n_t44 c_t44 A_t75 n_t75 c_t75 t86 (s.2.2.2) (roundQ (dag_row_or.e1 A_t44 n_t44 c_t44 A_t75 n_t75 c_t75 t86) I μ s w Q) w) : Holds none [] Tryd.prog 30 (.loop (lB (bB (sR (sL (sR (body Tryd.f69))))))) Q (dag_row_or.e1 A_t44 n_t44 c_t44 A_t75 n_t75 c_t75 t86 s) w :=
  loop_of_eq ng mix (dag_row_or.e1 A_t44 n_t44 c_t44 A_t75 n_t75 c_t75 t86) I μ dag_row_or.k dag_row_or.u1 s (fun s Q w => dag_row_or.B1 (s.1) (s.2.1) (s.2.2.1) A_t44 n_t44 c_t44 A_t75 n_t75 c_t75 t86 (s.2.2.2) Q w) (fun s Q w => dag_row_or.b1 (s.1) (s.2.1) (s.2.2.1) A_t44 n_t44 c_t44 A_t75 n_t75 c_t75 t86 (s.2.2.2) Q w) h0 round
def dag_row_or.X1_0 (A_r21 : Option Addr) (n_r21 : Nat) (c_r21 : Nat) (A_t422 : Option Addr) (n_t422 : Nat) (c_t422 : Nat) (A_t723 : Option Addr) (n_t723 : Nat) (c_t723 : Nat) (t824 : Int) (t925 : Int) (K : Value → World → Prop) (w : World) : Prop :=
  K (.slice A_r21 n_r21 c_r21) w
theorem dag_row_or.x1_0 (A_r21 : Option Addr) (n_r21 : Nat) (c_r21 : Nat) (A_t422 : Option Addr) (n_t422 : Nat) (c_t422 : Nat) (A_t723 : Option Addr) (n_t723 : Nat) (c_t723 : Nat) (t824 : Int) (t925 : Int) (K : Value → World → Prop) (w : World) : (dag_row_or.q1 K (.exit 0) [(0, .slice A_r21 n_r21 c_r21), (4, .slice A_t422 n_t422 c_t422), (7, .slice A_t723 n_t723 c_t723), (8, .int .i64 t824), (9, .int .i64 t925)] w) = dag_row_or.X1_0 A_r21 n_r21 c_r21 A_t422 n_t422 c_t422 A_t723 n_t723 c_t723 t824 t925 K w := by kernel_rfl
/-! ### 71: (*plexus/dag.Graph).there -/
def dag_Graph_there.k : List Nat := []
def dag_Graph_there.W (g1 : Option Addr) (K : Value → World → Prop) (w : World) : Prop :=
  Split (!(g1).isNone) (Is g1 fun a2 : Addr => ∃ t93 : Option Nat, w.cell? (a2.add 1) = some (.map t93) ∧ K (.bool (!(t93).isNone)) w) (K (.bool false) w)
theorem dag_Graph_there.s (g1 : Option Addr) (K : Value → World → Prop) (w : World) : (codeW none [] Tryd.prog Tryd.f71.ntmps dag_Graph_there.k (body Tryd.f71) (resSlots Tryd.f71) (funQ Tryd.prog Tryd.f71 K) (argEnv [.pointer g1] 0) w) = dag_Graph_there.W g1 K w := by kernel_rfl
theorem dag_Graph_there.of {g1 : Option Addr} {K : Value → World → Prop} {w : World} (h : dag_Graph_there.W g1 K w) : Ret Tryd.prog 71 #[.pointer g1] w K :=
  ret_of_eq (C := dag_Graph_there.k) (fn := Tryd.f71) (c := body Tryd.f71) ng mix Tryd.func71 (by kernel_rfl) (by kernel_rfl) (dag_Graph_there.s g1 K w) h
/-! ### 72: (*plexus/dag.Graph).Add$1 -/
def dag_Graph_Add_fn1.k : List Nat := []
def dag_Graph_Add_fn1.W (p1 : Array Value) (cap2 : Addr) (K : Value → World → Prop) (w : World) : Prop :=
  let w_3 : World := w.alloc (.cells p1 24); ∃ t44 : Option Addr, w_3.cell? cap2 = some (.pointer t44) ∧ ∃ t55 : Array Value, (t55.size = 32 ∧ Cells w_3 (⟨w.heap.size, 0, none⟩ : Addr) t55) ∧ Ret Tryd.prog 31 #[.pointer t44, .agg t55] w_3 fun v6 w_7 => ∃ t68 : Bool, v6 = .bool t68 ∧ K (.bool (!t68)) w_7
theorem dag_Graph_Add_fn1.s (p1 : Array Value) (cap2 : Addr) (K : Value → World → Prop) (w : World) : (codeW none [] Tryd.prog Tryd.f72.ntmps dag_Graph_Add_fn1.k (body Tryd.f72) (resSlots Tryd.f72) (funQ Tryd.prog Tryd.f72 K) (argEnv [.agg p1, .pointer (some cap2)] 0) w) = dag_Graph_Add_fn1.W p1 cap2 K w := by kernel_rfl
theorem dag_Graph_Add_fn1.of {p1 : Array Value} {cap2 : Addr} {K : Value → World → Prop} {w : World} (h : dag_Graph_Add_fn1.W p1 cap2 K w) : Ret Tryd.prog 72 #[.agg p1, .pointer (some cap2)] w K :=
  ret_of_eq (C := dag_Graph_Add_fn1.k) (fn := Tryd.f72) (c := body Tryd.f72) ng mix Tryd.func72 (by kernel_rfl) (by kernel_rfl) (dag_Graph_Add_fn1.s p1 cap2 K w) h
/-! ### 73: (plexus/dag.row).with -/
def dag_row_with.k : List Nat := []
def dag_row_with.q1 (K : Value → World → Prop) : Post := (blockQ 0 (uses (sR (sR (body Tryd.f73))) ++ (resSlots Tryd.f73)) (thenQ (fun ρ_ w_ => match cutAt dag_row_with.k (sR (sR (body Tryd.f73))) with | true => Holds none [] Tryd.prog 24 (sR (sR (body Tryd.f73))) (funQ Tryd.prog Tryd.f73 K) ρ_ w_ | false => codeW none [] Tryd.prog 24 dag_row_with.k (sR (sR (body Tryd.f73))) (resSlots Tryd.f73) (funQ Tryd.prog Tryd.f73 K) ρ_ w_) (funQ Tryd.prog Tryd.f73 K)))
def dag_row_with.e1 (n4 : Int) (A_t45 : Option Addr) (n_t45 : Nat) (c_t45 : Nat) (s : (Option Addr) × Nat × Nat) : Env := [(0, .slice s.1 s.2.1 s.2.2), (1, .int .i64 n4), (4, .slice A_t45 n_t45 c_t45)]
def dag_row_with.u1 : List Nat := [0, 1, 4]
def dag_row_with.W (A_r1 : Option Addr) (n_r1 : Nat) (c_r1 : Nat) (n2 : Int) (K : Value → World → Prop) (w : World) : Prop :=
  Holds none [] Tryd.prog 24 (.loop (lB (bB (sL (sR (body Tryd.f73)))))) (dag_row_with.q1 K) [(0, .slice A_r1 n_r1 c_r1), (1, .int .i64 n2), (4, .slice none 0 0)] w
theorem dag_row_with.s (A_r1 : Option Addr) (n_r1 : Nat) (c_r1 : Nat) (n2 : Int) (K : Value → World → Prop) (w : World) : (codeW none [] Tryd.prog Tryd.f73.ntmps dag_row_with.k (body Tryd.f73) (resSlots Tryd.f73) (funQ Tryd.prog Tryd.f73 K) (argEnv [.slice A_r1 n_r1 c_r1, .int .i64 n2] 0) w) = dag_row_with.W A_r1 n_r1 c_r1 n2 K w := by kernel_rfl
theorem dag_row_with.of {A_r1 : Option Addr} {n_r1 : Nat} {c_r1 : Nat} {n2 : Int} {K : Value → World → Prop} {w : World} (h : dag_row_with.W A_r1 n_r1 c_r1 n2 K w) : Ret Tryd.prog 73 #[.slice A_r1 n_r1 c_r1, .int .i64 n2] w K :=
  ret_of_eq (C := dag_row_with.k) (fn := Tryd.f73) (c := body Tryd.f73) ng mix Tryd.func73 (by kernel_rfl) (by kernel_rfl) (dag_row_with.s A_r1 n_r1 c_r1 n2 K w) h
def dag_row_with.B1 (A_r3 : Option Addr) (n_r3 : Nat) (c_r3 : Nat) (n4 : Int) (A_t45 : Option Addr) (n_t45 : Nat) (c_t45 : Nat) (Q : Post) (w : World) : Prop :=
  (64 : Int) ≠ 0 ∧ Split (decide ((n_r3 : Int) ≤ (IntKind.i64.wrap (n4.tdiv (64 : Int))))) (let w_6 : World := w.alloc (.cells #[.int .u64 0] 103); ∃ (A_t127 : Option Addr) (n_t127 c_t127 : Nat) (w_8 : World), (Builtin.append_ #[97, 97] 97 #[.slice A_r3 n_r3 c_r3, .slice (some (⟨w.heap.size, 0, none⟩ : Addr)) 1 1]).run Tryd.prog w_6 = .ok (.slice A_t127 n_t127 c_t127) w_8 ∧ Q .normal [(0, .slice A_t127 n_t127 c_t127), (1, .int .i64 n4), (4, .slice A_t45 n_t45 c_t45)] w_8) (Q (.exit 0) [(0, .slice A_r3 n_r3 c_r3), (1, .int .i64 n4), (4, .slice A_t45 n_t45 c_t45)] w)
theorem dag_row_with.b1 (A_r3 : Option Addr) (n_r3 : Nat) (c_r3 : Nat) (n4 : Int) (A_t45 : Option Addr) (n_t45 : Nat) (c_t45 : Nat) (Q : Post) (w : World) : (codeW none [] Tryd.prog 24 dag_row_with.k (lB (bB (sL (sR (body Tryd.f73))))) dag_row_with.u1 Q [(0, .slice A_r3 n_r3 c_r3), (1, .int .i64 n4), (4, .slice A_t45 n_t45 c_t45)] w) = dag_row_with.B1 A_r3 n_r3 c_r3 n4 A_t45 n_t45 c_t45 Q w := by kernel_rfl
theorem dag_row_with.loop1 {n4 : Int} {A_t45 : Option Addr} {n_t45 : Nat} {c_t45 : Nat} (I : (Option Addr) × Nat × Nat → World → Prop) (μ : (Option Addr) × Nat × Nat → World → Nat) (s : (Option Addr) × Nat × Nat) {Q : Post} {w : World} (h0 : I s w)
    (round : ∀ s w, I s w → dag_row_with.B1 (s.1) (s.2.1) (s.2.2) n4 A_t45 n_t45 c_t45 (roundQ (dag_row_with.e1 n4 A_t45 n_t45 c_t45) I μ s w Q) w) : Holds none [] Tryd.prog 24 (.loop (lB (bB (sL (sR (body Tryd.f73)))))) Q (dag_row_with.e1 n4 A_t45 n_t45 c_t45 s) w :=
  loop_of_eq ng mix (dag_row_with.e1 n4 A_t45 n_t45 c_t45) I μ dag_row_with.k dag_row_with.u1 s (fun s Q w => dag_row_with.B1 (s.1) (s.2.1) (s.2.2) n4 A_t45 n_t45 c_t45 Q w) (fun s Q w => dag_row_with.b1 (s.1) (s.2.1) (s.2.2) n4 A_t45 n_t45 c_t45 Q w) h0 round
def dag_row_with.X1_0 (A_r9 : Option Addr) (n_r9 : Nat) (c_r9 : Nat) (n10 : Int) (A_t411 : Option Addr) (n_t411 : Nat) (c_t411 : Nat) (K : Value → World → Prop) (w : World) : Prop :=
  let w_12 : World := w.drew; (64 : Int) ≠ 0 ∧ (0 ≤ (IntKind.i64.wrap (n10.tdiv (64 : Int))) ∧ (IntKind.i64.wrap (n10.tdiv (64 : Int))) < (n_r9 : Int)) ∧ Is A_r9 fun a13 : Addr => ∃ t1714 : Int, w_12.cell? (a13.add ((IntKind.i64.wrap (n10.tdiv (64 : Int))).toNat * 1)) = some (.int .u64 t1714) ∧ (64 : Int) ≠ 0 ∧ 0 ≤ (n10.tmod (64 : Int)) ∧ (0 ≤ (IntKind.i64.wrap (n10.tdiv (64 : Int))) ∧ (IntKind.i64.wrap (n10.tdiv (64 : Int))) < (n_r9 : Int)) ∧ Is A_r9 fun a15 : Addr => Wr w_12 (a15.add ((IntKind.i64.wrap (n10.tdiv (64 : Int))).toNat * 1)) ∧ let w_16 : World := w_12.setCell (a15.add ((IntKind.i64.wrap (n10.tdiv (64 : Int))).toNat * 1)) (.int .u64 (IntKind.u64.wrap ((BitVec.ofInt 64 t1714 ||| BitVec.ofInt 64 (IntKind.u64.wrap ((1 : Int) * 2 ^ (min (n10.tmod (64 : Int)).toNat 64)))).toNat))); K (.slice A_r9 n_r9 c_r9) w_16
theorem dag_row_with.x1_0 (A_r9 : Option Addr) (n_r9 : Nat) (c_r9 : Nat) (n10 : Int) (A_t411 : Option Addr) (n_t411 : Nat) (c_t411 : Nat) (K : Value → World → Prop) (w : World) : (dag_row_with.q1 K (.exit 0) [(0, .slice A_r9 n_r9 c_r9), (1, .int .i64 n10), (4, .slice A_t411 n_t411 c_t411)] w) = dag_row_with.X1_0 A_r9 n_r9 c_r9 n10 A_t411 n_t411 c_t411 K w := by kernel_rfl
/-! ### 81: plexus/plexusref10.Compare -/
/-! ### 89: bytes.Compare -/
def bytes_Compare.k : List Nat := []
def bytes_Compare.W (A_a1 : Option Addr) (n_a1 : Nat) (c_a1 : Nat) (A_b2 : Option Addr) (n_b2 : Nat) (c_b2 : Nat) (K : Value → World → Prop) (w : World) : Prop :=
  ExtCall Tryd.prog 98 #[.slice A_a1 n_a1 c_a1, .slice A_b2 n_b2 c_b2] w fun v3 w_4 => ∃ t75 : Int, v3 = .int .i64 t75 ∧ K (.int .i64 t75) w_4
theorem bytes_Compare.s (A_a1 : Option Addr) (n_a1 : Nat) (c_a1 : Nat) (A_b2 : Option Addr) (n_b2 : Nat) (c_b2 : Nat) (K : Value → World → Prop) (w : World) : (codeW none [] Tryd.prog Tryd.f89.ntmps bytes_Compare.k (body Tryd.f89) (resSlots Tryd.f89) (funQ Tryd.prog Tryd.f89 K) (argEnv [.slice A_a1 n_a1 c_a1, .slice A_b2 n_b2 c_b2] 0) w) = bytes_Compare.W A_a1 n_a1 c_a1 A_b2 n_b2 c_b2 K w := by kernel_rfl
theorem bytes_Compare.of {A_a1 : Option Addr} {n_a1 : Nat} {c_a1 : Nat} {A_b2 : Option Addr} {n_b2 : Nat} {c_b2 : Nat} {K : Value → World → Prop} {w : World} (h : bytes_Compare.W A_a1 n_a1 c_a1 A_b2 n_b2 c_b2 K w) : Ret Tryd.prog 89 #[.slice A_a1 n_a1 c_a1, .slice A_b2 n_b2 c_b2] w K :=
  ret_of_eq (C := bytes_Compare.k) (fn := Tryd.f89) (c := body Tryd.f89) ng mix Tryd.func89 (by kernel_rfl) (by kernel_rfl) (bytes_Compare.s A_a1 n_a1 c_a1 A_b2 n_b2 c_b2 K w) h
/-! ### 79: slices.IndexFunc[[]plexus/api.Hash,plexus/api.Hash] -/
def slices_IndexFunc_of_api_Hash__dag_Graph_Add_fn1.k : List Nat := []
def slices_IndexFunc_of_api_Hash__dag_Graph_Add_fn1.q1 (K : Value → World → Prop) : Post := (blockQ 0 (uses (sR (sR (body Tryd.f79))) ++ (resSlots Tryd.f79)) (thenQ (fun ρ_ w_ => match cutAt slices_IndexFunc_of_api_Hash__dag_Graph_Add_fn1.k (sR (sR (body Tryd.f79))) with | true => Holds none [] Tryd.prog 19 (sR (sR (body Tryd.f79))) (funQ Tryd.prog Tryd.f79 K) ρ_ w_ | false => codeW none [] Tryd.prog 19 slices_IndexFunc_of_api_Hash__dag_Graph_Add_fn1.k (sR (sR (body Tryd.f79))) (resSlots Tryd.f79) (funQ Tryd.prog Tryd.f79 K) ρ_ w_) (funQ Tryd.prog Tryd.f79 K)))
def slices_IndexFunc_of_api_Hash__dag_Graph_Add_fn1.e1 (A_s3 : Option Addr) (n_s3 : Nat) (c_s3 : Nat) (fc4 : Addr) (t76 : Int) (s : Int × Int) : Env := [(0, .slice A_s3 n_s3 c_s3), (1, .func (.func 72) #[] #[.pointer (some fc4)]), (4, .int .i64 s.1), (7, .int .i64 t76), (8, .int .i64 s.2)]
def slices_IndexFunc_of_api_Hash__dag_Graph_Add_fn1.u1 : List Nat := [0, 1, 4, 7, 8]
def slices_IndexFunc_of_api_Hash__dag_Graph_Add_fn1.W (A_s1 : Option Addr) (n_s1 : Nat) (c_s1 : Nat) (cap2 : Addr) (K : Value → World → Prop) (w : World) : Prop :=
  Holds none [] Tryd.prog 19 (.loop (lB (bB (sR (sL (sR (body Tryd.f79))))))) (slices_IndexFunc_of_api_Hash__dag_Graph_Add_fn1.q1 K) [(0, .slice A_s1 n_s1 c_s1), (1, .func (.func 72) #[] #[.pointer (some cap2)]), (4, .int .i64 0), (7, .int .i64 (n_s1 : Int)), (8, .int .i64 0)] w
theorem slices_IndexFunc_of_api_Hash__dag_Graph_Add_fn1.s (A_s1 : Option Addr) (n_s1 : Nat) (c_s1 : Nat) (cap2 : Addr) (K : Value → World → Prop) (w : World) : (codeW none [] Tryd.prog Tryd.f79.ntmps slices_IndexFunc_of_api_Hash__dag_Graph_Add_fn1.k (body Tryd.f79) (resSlots Tryd.f79) (funQ Tryd.prog Tryd.f79 K) (argEnv [.slice A_s1 n_s1 c_s1, .func (.func 72) #[] #[.pointer (some cap2)]] 0) w) = slices_IndexFunc_of_api_Hash__dag_Graph_Add_fn1.W A_s1 n_s1 c_s1 cap2 K w := by kernel_rfl
theorem slices_IndexFunc_of_api_Hash__dag_Graph_Add_fn1.of {A_s1 : Option Addr} {n_s1 : Nat} {c_s1 : Nat} {cap2 : Addr} {K : Value → World → Prop} {w : World} (h : slices_IndexFunc_of_api_Hash__dag_Graph_Add_fn1.W A_s1 n_s1 c_s1 cap2 K w) : Ret Tryd.prog 79 #[.slice A_s1 n_s1 c_s1, .func (.func 72) #[] #[.pointer (some cap2)]] w K :=
  ret_of_eq (C := slices_IndexFunc_of_api_Hash__dag_Graph_Add_fn1.k) (fn := Tryd.f79) (c := body Tryd.f79) ng mix Tryd.func79 (by kernel_rfl) (by kernel_rfl) (slices_IndexFunc_of_api_Hash__dag_Graph_Add_fn1.s A_s1 n_s1 c_s1 cap2 K w) h
def slices_IndexFunc_of_api_Hash__dag_Graph_Add_fn1.B1 (A_s3 : Option Addr) (n_s3 : Nat) (c_s3 : Nat) (fc4 : Addr) (t45 : Int) (t76 : Int) (t87 : Int) (Q : Post) (w : World) : Prop :=
  Split (decide (t87 < t76)) ((0 ≤ t87 ∧ t87 < (n_s3 : Int)) ∧ Is A_s3 fun a8 : Addr => ∃ t159 : Array Value, (t159.size = 32 ∧ Cells w (a8.add (t87.toNat * 32)) t159) ∧ Ret Tryd.prog 72 #[.agg t159, .pointer (some fc4)] w fun v10 w_11 => ∃ t1612 : Bool, v10 = .bool t1612 ∧ Split t1612 (Q .ret [(0, .slice A_s3 n_s3 c_s3), (1, .func (.func 72) #[] #[.pointer (some fc4)]), (4, .int .i64 t87), (7, .int .i64 t76), (8, .int .i64 t87)] w_11) (Q .normal [(0, .slice A_s3 n_s3 c_s3), (1, .func (.func 72) #[] #[.pointer (some fc4)]), (4, .int .i64 t45), (7, .int .i64 t76), (8, .int .i64 (IntKind.i64.wrap (t87 + (1 : Int))))] w_11)) (Q (.exit 0) [(0, .slice A_s3 n_s3 c_s3), (1, .func (.func 72) #[] #[.pointer (some fc4)]), (4, .int .i64 t45), (7, .int .i64 t76), (8, .int .i64 t87)] w)
theorem slices_IndexFunc_of_api_Hash__dag_Graph_Add_fn1.b1 (A_s3 : Option Addr) (n_s3 : Nat) (c_s3 : Nat) (fc4 : Addr) (t45 : Int) (t76 : Int) (t87 : Int) (Q : Post) (w : World) : (codeW none [] Tryd.prog 19 slices_IndexFunc_of_api_Hash__dag_Graph_Add_fn1.k (lB (bB (sR (sL (sR (body Tryd.f79)))))) slices_IndexFunc_of_api_Hash__dag_Graph_Add_fn1.u1 Q [(0, .slice A_s3 n_s3 c_s3), (1, .func (.func 72) #[] #[.pointer (some fc4)]), (4, .int .i64 t45), (7, .int .i64 t76), (8, .int .i64 t87)] w) = slices_IndexFunc_of_api_Hash__dag_Graph_Add_fn1.B1 A_s3 n_s3 c_s3 fc4 t45 t76 t87 Q w := by kernel_rfl
theorem slices_IndexFunc_of_api_Hash__dag_Graph_Add_fn1.loop1 {A_s3 : Option Addr} {n_s3 : Nat} {c_s3 : Nat} {fc4 : Addr} {t76 : Int} (I : Int × Int → World → Prop) (μ : Int × Int → World → Nat) (s : Int × Int) {Q : Post} {w : World} (h0 : I s w)
    (round : ∀ s w, I s w → slices_IndexFunc_of_api_Hash__dag_Graph_Add_fn1.B1 A_s3 n_s3 c_s3 fc4 (s.1) t76 (s.2) (roundQ (slices_IndexFunc_of_api_Hash__dag_Graph_Add_fn1.e1 A_s3 n_s3 c_s3 fc4 t76) I μ s w Q) w) : Holds none [] Tryd.prog 19 (.loop (lB (bB (sR (sL (sR (body Tryd.f79))))))) Q (slices_IndexFunc_of_api_Hash__dag_Graph_Add_fn1.e1 A_s3 n_s3 c_s3 fc4 t76 s) w :=
  loop_of_eq ng mix (slices_IndexFunc_of_api_Hash__dag_Graph_Add_fn1.e1 A_s3 n_s3 c_s3 fc4 t76) I μ slices_IndexFunc_of_api_Hash__dag_Graph_Add_fn1.k slices_IndexFunc_of_api_Hash__dag_Graph_Add_fn1.u1 s (fun s Q w => slices_IndexFunc_of_api_Hash__dag_Graph_Add_fn1.B1 A_s3 n_s3 c_s3 fc4 (s.1) t76 (s.2) Q w) (fun s Q w => slices_IndexFunc_of_api_Hash__dag_Graph_Add_fn1.b1 A_s3 n_s3 c_s3 fc4 (s.1) t76 (s.2) Q w) h0 round
def slices_IndexFunc_of_api_Hash__dag_Graph_Add_fn1.X1_0 (A_s13 : Option Addr) (n_s13 : Nat) (c_s13 : Nat) (fc14 : Addr) (t415 : Int) (t716 : Int) (t817 : Int) (K : Value → World → Prop) (w : World) : Prop :=
  K (.int .i64 (-1)) w
theorem slices_IndexFunc_of_api_Hash__dag_Graph_Add_fn1.x1_0 (A_s13 : Option Addr) (n_s13 : Nat) (c_s13 : Nat) (fc14 : Addr) (t415 : Int) (t716 : Int) (t817 : Int) (K : Value → World → Prop) (w : World) : (slices_IndexFunc_of_api_Hash__dag_Graph_Add_fn1.q1 K (.exit 0) [(0, .slice A_s13 n_s13 c_s13), (1, .func (.func 72) #[] #[.pointer (some fc14)]), (4, .int .i64 t415), (7, .int .i64 t716), (8, .int .i64 t817)] w) = slices_IndexFunc_of_api_Hash__dag_Graph_Add_fn1.X1_0 A_s13 n_s13 c_s13 fc14 t415 t716 t817 K w := by kernel_rfl
/-! ### 40: slices.ContainsFunc[[]plexus/api.Hash,plexus/api.Hash] -/
def slices_ContainsFunc_of_api_Hash__dag_Graph_Add_fn1.k : List Nat := []
def slices_ContainsFunc_of_api_Hash__dag_Graph_Add_fn1.W (A_s1 : Option Addr) (n_s1 : Nat) (c_s1 : Nat) (cap2 : Addr) (K : Value → World → Prop) (w : World) : Prop :=
  Ret Tryd.prog 79 #[.slice A_s1 n_s1 c_s1, .func (.func 72) #[] #[.pointer (some cap2)]] w fun v3 w_4 => ∃ t75 : Int, v3 = .int .i64 t75 ∧ K (.bool (decide (t75 ≥ (0 : Int)))) w_4
theorem slices_ContainsFunc_of_api_Hash__dag_Graph_Add_fn1.s (A_s1 : Option Addr) (n_s1 : Nat) (c_s1 : Nat) (cap2 : Addr) (K : Value → World → Prop) (w : World) : (codeW none [] Tryd.prog Tryd.f40.ntmps slices_ContainsFunc_of_api_Hash__dag_Graph_Add_fn1.k (body Tryd.f40) (resSlots Tryd.f40) (funQ Tryd.prog Tryd.f40 K) (argEnv [.slice A_s1 n_s1 c_s1, .func (.func 72) #[] #[.pointer (some cap2)]] 0) w) = slices_ContainsFunc_of_api_Hash__dag_Graph_Add_fn1.W A_s1 n_s1 c_s1 cap2 K w := by kernel_rfl
theorem slices_ContainsFunc_of_api_Hash__dag_Graph_Add_fn1.of {A_s1 : Option Addr} {n_s1 : Nat} {c_s1 : Nat} {cap2 : Addr} {K : Value → World → Prop} {w : World} (h : slices_ContainsFunc_of_api_Hash__dag_Graph_Add_fn1.W A_s1 n_s1 c_s1 cap2 K w) : Ret Tryd.prog 40 #[.slice A_s1 n_s1 c_s1, .func (.func 72) #[] #[.pointer (some cap2)]] w K :=
  ret_of_eq (C := slices_ContainsFunc_of_api_Hash__dag_Graph_Add_fn1.k) (fn := Tryd.f40) (c := body Tryd.f40) ng mix Tryd.func40 (by kernel_rfl) (by kernel_rfl) (slices_ContainsFunc_of_api_Hash__dag_Graph_Add_fn1.s A_s1 n_s1 c_s1 cap2 K w) h
/-! ### 90: (plexus/dag.row).all$1 -/
def dag_row_all_fn1.k : List Nat := []
def dag_row_all_fn1.q1 (K : Value → World → Prop) : Post := (blockQ 0 (resSlots Tryd.f90) (funQ Tryd.prog Tryd.f90 K))
def dag_row_all_fn1.e1 (yield4 : Nat) (A_t55 : Option Addr) (n_t55 : Nat) (c_t55 : Nat) (t66 : Int) (s : Int) : Env := [(0, .func (.yield yield4) #[] #[]), (5, .slice A_t55 n_t55 c_t55), (6, .int .i64 t66), (7, .int .i64 s)]
def dag_row_all_fn1.u1 : List Nat := [0, 5, 6, 7]
def dag_row_all_fn1.q2 (Q : Post) : Post := (blockQ 2 (uses (sR (sR (sR (lB (bB (sR (body Tryd.f90))))))) ++ dag_row_all_fn1.u1) (blockQ 1 (uses (sR (sR (sR (lB (bB (sR (body Tryd.f90))))))) ++ dag_row_all_fn1.u1) (thenQ (fun ρ_ w_ => match cutAt dag_row_all_fn1.k (sR (sR (sR (lB (bB (sR (body Tryd.f90))))))) with | true => Holds none [] Tryd.prog 27 (sR (sR (sR (lB (bB (sR (body Tryd.f90))))))) Q ρ_ w_ | false => codeW none [] Tryd.prog 27 dag_row_all_fn1.k (sR (sR (sR (lB (bB (sR (body Tryd.f90))))))) dag_row_all_fn1.u1 Q ρ_ w_) Q)))
def dag_row_all_fn1.e2 (yield14 : Nat) (i15 : Int) (A_t517 : Option Addr) (n_t517 : Nat) (c_t517 : Nat) (t618 : Int) (t719 : Int) (s : Int) : Env := [(0, .func (.yield yield14) #[] #[]), (3, .int .i64 i15), (4, .int .u64 s), (5, .slice A_t517 n_t517 c_t517), (6, .int .i64 t618), (7, .int .i64 t719)]
def dag_row_all_fn1.u2 : List Nat := [0, 3, 4, 5, 6, 7]
def dag_row_all_fn1.W (l1 : Nat) (cap2 : Addr) (K : Value → World → Prop) (w : World) : Prop :=
  ∃ A_t53 : Option Addr, ∃ n_t53 : Nat, ∃ c_t53 : Nat, w.cell? cap2 = some (.slice A_t53 n_t53 c_t53) ∧ Holds none [] Tryd.prog 27 (.loop (lB (bB (sR (body Tryd.f90))))) (dag_row_all_fn1.q1 K) [(0, .func (.yield l1) #[] #[]), (5, .slice A_t53 n_t53 c_t53), (6, .int .i64 (n_t53 : Int)), (7, .int .i64 0)] w
theorem dag_row_all_fn1.s (l1 : Nat) (cap2 : Addr) (K : Value → World → Prop) (w : World) : (codeW none [] Tryd.prog Tryd.f90.ntmps dag_row_all_fn1.k (body Tryd.f90) (resSlots Tryd.f90) (funQ Tryd.prog Tryd.f90 K) (argEnv [.func (.yield l1) #[] #[], .pointer (some cap2)] 0) w) = dag_row_all_fn1.W l1 cap2 K w := by kernel_rfl
theorem dag_row_all_fn1.of {l1 : Nat} {cap2 : Addr} {K : Value → World → Prop} {w : World} (h : dag_row_all_fn1.W l1 cap2 K w) : Ret Tryd.prog 90 #[.func (.yield l1) #[] #[], .pointer (some cap2)] w K :=
  ret_of_eq (C := dag_row_all_fn1.k) (fn := Tryd.f90) (c := body Tryd.f90) ng mix Tryd.func90 (by kernel_rfl) (by kernel_rfl) (dag_row_all_fn1.s l1 cap2 K w) h
def dag_row_all_fn1.B1 (yield4 : Nat) (A_t55 : Option Addr) (n_t55 : Nat) (c_t55 : Nat) (t66 : Int) (t77 : Int) (Q : Post) (w : World) : Prop :=
  Split (decide (t77 < t66)) ((0 ≤ t77 ∧ t77 < (n_t55 : Int)) ∧ Is A_t55 fun a8 : Addr => ∃ t119 : Int, w.cell? (a8.add (t77.toNat * 1)) = some (.int .u64 t119) ∧ Holds none [] Tryd.prog 27 (.loop (lB (bB (sR (bB (sL (sR (sR (lB (bB (sR (body Tryd.f90)))))))))))) (dag_row_all_fn1.q2 Q) [(0, .func (.yield yield4) #[] #[]), (3, .int .i64 t77), (4, .int .u64 t119), (5, .slice A_t55 n_t55 c_t55), (6, .int .i64 t66), (7, .int .i64 t77)] w) (Q (.exit 0) [(0, .func (.yield yield4) #[] #[]), (5, .slice A_t55 n_t55 c_t55), (6, .int .i64 t66), (7, .int .i64 t77)] w)
theorem dag_row_all_fn1.b1 (yield4 : Nat) (A_t55 : Option Addr) (n_t55 : Nat) (c_t55 : Nat) (t66 : Int) (t77 : Int) (Q : Post) (w : World) : (codeW none [] Tryd.prog 27 dag_row_all_fn1.k (lB (bB (sR (body Tryd.f90)))) dag_row_all_fn1.u1 Q [(0, .func (.yield yield4) #[] #[]), (5, .slice A_t55 n_t55 c_t55), (6, .int .i64 t66), (7, .int .i64 t77)] w) = dag_row_all_fn1.B1 yield4 A_t55 n_t55 c_t55 t66 t77 Q w := by kernel_rfl
theorem dag_row_all_fn1.loop1 {yield4 : Nat} {A_t55 : Option Addr} {n_t55 : Nat} {c_t55 : Nat} {t66 : Int} (I : Int → World → Prop) (μ : Int → World → Nat) (s : Int) {Q : Post} {w : World} (h0 : I s w)
    (round : ∀ s w, I s w → dag_row_all_fn1.B1 yield4 A_t55 n_t55 c_t55 t66 (s) (roundQ (dag_row_all_fn1.e1 yield4 A_t55 n_t55 c_t55 t66) I μ s w Q) w) : Holds none [] Tryd.prog 27 (.loop (lB (bB (sR (body Tryd.f90))))) Q (dag_row_all_fn1.e1 yield4 A_t55 n_t55 c_t55 t66 s) w :=
  loop_of_eq ng mix (dag_row_all_fn1.e1 yield4 A_t55 n_t55 c_t55 t66) I μ dag_row_all_fn1.k dag_row_all_fn1.u1 s (fun s Q w => dag_row_all_fn1.B1 yield4 A_t55 n_t55 c_t55 t66 (s) Q w) (fun s Q w => dag_row_all_fn1.b1 yield4 A_t55 n_t55 c_t55 t66 (s) Q w) h0 round
def dag_row_all_fn1.X1_0 (yield10 : Nat) (A_t511 : Option Addr) (n_t511 : Nat) (c_t511 : Nat) (t612 : Int) (t713 : Int) (K : Value → World → Prop) (w : World) : Prop :=
  K (.tuple #[]) w
theorem dag_row_all_fn1.x1_0 (yield10 : Nat) (A_t511 : Option Addr) (n_t511 : Nat) (c_t511 : Nat) (t612 : Int) (t713 : Int) (K : Value → World → Prop) (w : World) : (dag_row_all_fn1.q1 K (.exit 0) [(0, .func (.yield yield10) #[] #[]), (5, .slice A_t511 n_t511 c_t511), (6, .int .i64 t612), (7, .int .i64 t713)] w) = dag_row_all_fn1.X1_0 yield10 A_t511 n_t511 c_t511 t612 t713 K w := by kernel_rfl
def dag_row_all_fn1.B2 (yield14 : Nat) (i15 : Int) (w_16 : Int) (A_t517 : Option Addr) (n_t517 : Nat) (c_t517 : Nat) (t618 : Int) (t719 : Int) (Q : Post) (w : World) : Prop :=
  Split (w_16 != (0 : Int)) (Ret Tryd.prog 91 #[.int .u64 w_16] w fun v20 w_21 => ∃ t2222 : Int, v20 = .int .i64 t2222 ∧ YieldsTo Tryd.prog yield14 #[.int .i64 (IntKind.i64.wrap ((IntKind.i64.wrap ((64 : Int) * i15)) + t2222))] w_21 fun b23 w_24 => Split (!b23) (Q .ret [(0, .func (.yield yield14) #[] #[]), (3, .int .i64 i15), (4, .int .u64 w_16), (5, .slice A_t517 n_t517 c_t517), (6, .int .i64 t618), (7, .int .i64 t719)] w_24) (Q .normal [(0, .func (.yield yield14) #[] #[]), (3, .int .i64 i15), (4, .int .u64 (IntKind.u64.wrap ((BitVec.ofInt 64 w_16 &&& BitVec.ofInt 64 (IntKind.u64.wrap (w_16 - (1 : Int)))).toNat))), (5, .slice A_t517 n_t517 c_t517), (6, .int .i64 t618), (7, .int .i64 t719)] w_24)) (Q (.exit 2) [(0, .func (.yield yield14) #[] #[]), (3, .int .i64 i15), (4, .int .u64 w_16), (5, .slice A_t517 n_t517 c_t517), (6, .int .i64 t618), (7, .int .i64 t719)] w)
theorem dag_row_all_fn1.b2 (yield14 : Nat) (i15 : Int) (w_16 : Int) (A_t517 : Option Addr) (n_t517 : Nat) (c_t517 : Nat) (t618 : Int) (t719 : Int) (Q : Post) (w : World) : (codeW none [] Tryd.prog 27 dag_row_all_fn1.k (lB (bB (sR (bB (sL (sR (sR (lB (bB (sR (body Tryd.f90))))))))))) dag_row_all_fn1.u2 Q [(0, .func (.yield yield14) #[] #[]), (3, .int .i64 i15), (4, .int .u64 w_16), (5, .slice A_t517 n_t517 c_t517), (6, .int .i64 t618), (7, .int .i64 t719)] w) = dag_row_all_fn1.B2 yield14 i15 w_16 A_t517 n_t517 c_t517 t618 t719 Q w := by kernel_rfl
theorem dag_row_all_fn1.loop2 {yield14 : Nat} {i15 : Int} {A_t517 : Option Addr} {n_t517 : Nat} {c_t517 : Nat} {t618 : Int} {t719 : Int} (I : Int → World → Prop) (μ : Int → World → Nat) (s : Int) {Q : Post} {w : World} (h0 : I s w)
    (round : ∀ s w, I s w → dag_row_all_fn1.B2 yield14 i15 (s) A_t517 n_t517 c_t517 t618 t719 (roundQ (dag_row_all_fn1.e2 yield14 i15 A_t517 n_t517 c_t517 t618 t719) I μ s w Q) w) : Holds none [] Tryd.prog 27 (.loop (lB (bB (sR (bB (sL (sR (sR (lB (bB (sR (body Tryd.f90)))))))))))) Q (dag_row_all_fn1.e2 yield14 i15 A_t517 n_t517 c_t517 t618 t719 s) w :=
  loop_of_eq ng mix (dag_row_all_fn1.e2 yield14 i15 A_t517 n_t517 c_t517 t618 t719) I μ dag_row_all_fn1.k dag_row_all_fn1.u2 s (fun s Q w => dag_row_all_fn1.B2 yield14 i15 (s) A_t517 n_t517 c_t517 t618 t719 Q w) (fun s Q w => dag_row_all_fn1.b2 yield14 i15 (s) A_t517 n_t517 c_t517 t618 t719 Q w) h0 round
def dag_row_all_fn1.X2_2 (yield25 : Nat) (i26 : Int) (w_27 : Int) (A_t528 : Option Addr) (n_t528 : Nat) (c_t528 : Nat) (t629 : Int) (t730 : Int) (Q : Post) (w : World) : Prop :=
  Q .normal [(0, .func (.yield yield25) #[] #[]), (5, .slice A_t528 n_t528 c_t528), (6, .int .i64 t629), (7, .int .i64 (IntKind.i64.wrap (t730 + (1 : Int))))] w
theorem dag_row_all_fn1.x2_2 (yield25 : Nat) (i26 : Int) (w_27 : Int) (A_t528 : Option Addr) (n_t528 : Nat) (c_t528 : Nat) (t629 : Int) (t730 : Int) (Q : Post) (w : World) : (dag_row_all_fn1.q2 Q (.exit 2) [(0, .func (.yield yield25) #[] #[]), (3, .int .i64 i26), (4, .int .u64 w_27), (5, .slice A_t528 n_t528 c_t528), (6, .int .i64 t629), (7, .int .i64 t730)] w) = dag_row_all_fn1.X2_2 yield25 i26 w_27 A_t528 n_t528 c_t528 t629 t730 Q w := by kernel_rfl
/-! ### 88: slices.Values[[]plexus/api.Hash,plexus/api.Hash]$1 -/
def slices_Values_of_api_Hash_fn1.k : List Nat := []
def slices_Values_of_api_Hash_fn1.q1 (K : Value → World → Prop) : Post := (blockQ 0 (resSlots Tryd.f88) (funQ Tryd.prog Tryd.f88 K))
def slices_Values_of_api_Hash_fn1.e1 (yield4 : Nat) (A_t55 : Option Addr) (n_t55 : Nat) (c_t55 : Nat) (t66 : Int) (s : Int) : Env := [(0, .func (.yield yield4) #[] #[]), (5, .slice A_t55 n_t55 c_t55), (6, .int .i64 t66), (7, .int .i64 s)]
def slices_Values_of_api_Hash_fn1.u1 : List Nat := [0, 5, 6, 7]
def slices_Values_of_api_Hash_fn1.W (l1 : Nat) (cap2 : Addr) (K : Value → World → Prop) (w : World) : Prop :=
  ∃ A_t53 : Option Addr, ∃ n_t53 : Nat, ∃ c_t53 : Nat, w.cell? cap2 = some (.slice A_t53 n_t53 c_t53) ∧ Holds none [] Tryd.prog 16 (.loop (lB (bB (sR (body Tryd.f88))))) (slices_Values_of_api_Hash_fn1.q1 K) [(0, .func (.yield l1) #[] #[]), (5, .slice A_t53 n_t53 c_t53), (6, .int .i64 (n_t53 : Int)), (7, .int .i64 0)] w
theorem slices_Values_of_api_Hash_fn1.s (l1 : Nat) (cap2 : Addr) (K : Value → World → Prop) (w : World) : (codeW none [] Tryd.prog Tryd.f88.ntmps slices_Values_of_api_Hash_fn1.k (body Tryd.f88) (resSlots Tryd.f88) (funQ Tryd.prog Tryd.f88 K) (argEnv [.func (.yield l1) #[] #[], .pointer (some cap2)] 0) w) = slices_Values_of_api_Hash_fn1.W l1 cap2 K w := by kernel_rfl
theorem slices_Values_of_api_Hash_fn1.of {l1 : Nat} {cap2 : Addr} {K : Value → World → Prop} {w : World} (h : slices_Values_of_api_Hash_fn1.W l1 cap2 K w) : Ret Tryd.prog 88 #[.func (.yield l1) #[] #[], .pointer (some cap2)] w K :=
  ret_of_eq (C := slices_Values_of_api_Hash_fn1.k) (fn := Tryd.f88) (c := body Tryd.f88) ng mix Tryd.func88 (by kernel_rfl) (by kernel_rfl) (slices_Values_of_api_Hash_fn1.s l1 cap2 K w) h
def slices_Values_of_api_Hash_fn1.B1 (yield4 : Nat) (A_t55 : Option Addr) (n_t55 : Nat) (c_t55 : Nat) (t66 : Int) (t77 : Int) (Q : Post) (w : World) : Prop :=
  Split (decide (t77 < t66)) ((0 ≤ t77 ∧ t77 < (n_t55 : Int)) ∧ Is A_t55 fun a8 : Addr => ∃ t109 : Array Value, (t109.size = 32 ∧ Cells w (a8.add (t77.toNat * 32)) t109) ∧ let w_10 : World := w.alloc (.cells (#[.int .u8 0, .int .u8 0, .int .u8 0, .int .u8 0, .int .u8 0, .int .u8 0, .int .u8 0, .int .u8 0, .int .u8 0, .int .u8 0, .int .u8 0, .int .u8 0, .int .u8 0, .int .u8 0, .int .u8 0, .int .u8 0, .int .u8 0, .int .u8 0, .int .u8 0, .int .u8 0, .int .u8 0, .int .u8 0, .int .u8 0, .int .u8 0, .int .u8 0, .int .u8 0, .int .u8 0, .int .u8 0, .int .u8 0, .int .u8 0, .int .u8 0, .int .u8 0] : Array Value) 24); (t109.size = 32 ∧ (∀ c11 ∈ t109.toList, c11.oneCell' = true) ∧ ∀ j12, j12 < 32 → Wr w_10 ((⟨w.heap.size, 0, none⟩ : Addr).add j12)) ∧ let w_13 : World := setCells w_10 (⟨w.heap.size, 0, none⟩ : Addr) t109.toList 0; ∃ t1214 : Array Value, (t1214.size = 32 ∧ Cells w_13 (⟨w.heap.size, 0, none⟩ : Addr) t1214) ∧ YieldsTo Tryd.prog yield4 #[.agg t1214] w_13 fun b15 w_16 => Split (!b15) (Q .ret [(0, .func (.yield yield4) #[] #[]), (5, .slice A_t55 n_t55 c_t55), (6, .int .i64 t66), (7, .int .i64 t77)] w_16) (Q .normal [(0, .func (.yield yield4) #[] #[]), (5, .slice A_t55 n_t55 c_t55), (6, .int .i64 t66), (7, .int .i64 (IntKind.i64.wrap (t77 + (1 : Int))))] w_16)) (Q (.exit 0) [(0, .func (.yield yield4) #[] #[]), (5, .slice A_t55 n_t55 c_t55), (6, .int .i64 t66), (7, .int .i64 t77)] w)
theorem slices_Values_of_api_Hash_fn1.b1 (yield4 : Nat) (A_t55 : Option Addr) (n_t55 : Nat) (c_t55 : Nat) (t66 : Int) (t77 : Int) (Q : Post) (w : World) : (codeW none [] Tryd.prog 16 slices_Values_of_api_Hash_fn1.k (lB (bB (sR (body Tryd.f88)))) slices_Values_of_api_Hash_fn1.u1 Q [(0, .func (.yield yield4) #[] #[]), (5, .slice A_t55 n_t55 c_t55), (6, .int .i64 t66), (7, .int .i64 t77)] w) = slices_Values_of_api_Hash_fn1.B1 yield4 A_t55 n_t55 c_t55 t66 t77 Q w := by kernel_rfl
theorem slices_Values_of_api_Hash_fn1.loop1 {yield4 : Nat} {A_t55 : Option Addr} {n_t55 : Nat} {c_t55 : Nat} {t66 : Int} (I : Int → World → Prop) (μ : Int → World → Nat) (s : Int) {Q : Post} {w : World} (h0 : I s w)
    (round : ∀ s w, I s w → slices_Values_of_api_Hash_fn1.B1 yield4 A_t55 n_t55 c_t55 t66 (s) (roundQ (slices_Values_of_api_Hash_fn1.e1 yield4 A_t55 n_t55 c_t55 t66) I μ s w Q) w) : Holds none [] Tryd.prog 16 (.loop (lB (bB (sR (body Tryd.f88))))) Q (slices_Values_of_api_Hash_fn1.e1 yield4 A_t55 n_t55 c_t55 t66 s) w :=
  loop_of_eq ng mix (slices_Values_of_api_Hash_fn1.e1 yield4 A_t55 n_t55 c_t55 t66) I μ slices_Values_of_api_Hash_fn1.k slices_Values_of_api_Hash_fn1.u1 s (fun s Q w => slices_Values_of_api_Hash_fn1.B1 yield4 A_t55 n_t55 c_t55 t66 (s) Q w) (fun s Q w => slices_Values_of_api_Hash_fn1.b1 yield4 A_t55 n_t55 c_t55 t66 (s) Q w) h0 round
def slices_Values_of_api_Hash_fn1.X1_0 (yield17 : Nat) (A_t518 : Option Addr) (n_t518 : Nat) (c_t518 : Nat) (t619 : Int) (t720 : Int) (K : Value → World → Prop) (w : World) : Prop :=
  K (.tuple #[]) w
theorem slices_Values_of_api_Hash_fn1.x1_0 (yield17 : Nat) (A_t518 : Option Addr) (n_t518 : Nat) (c_t518 : Nat) (t619 : Int) (t720 : Int) (K : Value → World → Prop) (w : World) : (slices_Values_of_api_Hash_fn1.q1 K (.exit 0) [(0, .func (.yield yield17) #[] #[]), (5, .slice A_t518 n_t518 c_t518), (6, .int .i64 t619), (7, .int .i64 t720)] w) = slices_Values_of_api_Hash_fn1.X1_0 yield17 A_t518 n_t518 c_t518 t619 t720 K w := by kernel_rfl
end Go.Proofs.YtgfkpemnkmebkaaDoor
