/-
  The parts of the functions' texts, as the small calculus tells them: each by the kernel. Written by our gen.py.
-/
import Derived.Test.YtehkokfjfjefnaaProg
import Derived.Test.YtehkokfjfjefnaaL6
set_option linter.unusedVariables false
namespace Go.Proofs.Ytehkokfjfjefnaa
open Go Go.Lite
abbrev T_ : Nat := 0
abbrev T_func : Nat := 1
abbrev T_int64 : Nat := 2
abbrev T_int : Nat := 3
abbrev T_bool : Nat := 4
abbrev T_uint8 : Nat := 5
abbrev T_abi_BoundsErrorCode : Nat := 6
abbrev T_struct_x_int64_y_int_signed_bool_code_abi_BoundsErrorCode : Nat := 7
abbrev T_runtime_boundsError : Nat := 8
abbrev T_string : Nat := 9
abbrev T_runtime_errorString : Nat := 10
abbrev T_runtime_plainError : Nat := 11
abbrev T_uintptr : Nat := 12
abbrev T_struct_msg_string_addr_uintptr : Nat := 13
abbrev T_runtime_errorAddressString : Nat := 14
abbrev T_p_runtime_TypeAssertionError : Nat := 15
abbrev T_p_runtime_PanicNilError : Nat := 16
abbrev T_p_abi_Type : Nat := 17
abbrev T_struct_typ_p_abi_Type : Nat := 18
abbrev T_maps_unhashableTypeError : Nat := 19
abbrev T_interface : Nat := 20
abbrev T_int32 : Nat := 21
abbrev T_sl_int : Nat := 22
abbrev T_func_bool : Nat := 23
abbrev T_p_tree_Tree : Nat := 24
abbrev T_p_plexusref11_Tree : Nat := 25
abbrev T_p_tree_Tree_p_plexusref11_Tree_bool : Nat := 26
abbrev T_func_sl_int_p_tree_Tree_p_plexusref11_Tree_bool : Nat := 27
abbrev T_func_p_tree_Tree_p_plexusref11_Tree_bool : Nat := 28
abbrev T_func_int : Nat := 29
abbrev T_struct_Parents_sl_int : Nat := 30
abbrev T_plexusref11_Tree : Nat := 31
abbrev T_uint64 : Nat := 32
abbrev T_api_Errno : Nat := 33
abbrev T_uint64_uint64_api_Errno : Nat := 34
abbrev T_func_int_uint64_uint64_api_Errno : Nat := 35
abbrev T_func_int_int_bool : Nat := 36
abbrev T_func_p_tree_Tree : Nat := 37
abbrev T_func_sl_int_bool : Nat := 38
abbrev T_int_api_Errno : Nat := 39
abbrev T_func_int_int_api_Errno : Nat := 40
abbrev T_func_int_int : Nat := 41
abbrev T_func_sl_int_int_int_bool : Nat := 42
abbrev T_sl_int_api_Errno : Nat := 43
abbrev T_func_int_sl_int_api_Errno : Nat := 44
abbrev T_func_int_bool : Nat := 45
abbrev T_func_int_sl_int : Nat := 46
abbrev T_sl_tree_node : Nat := 47
abbrev T_struct_nodes_sl_tree_node_dealt_int : Nat := 48
abbrev T_tree_Tree : Nat := 49
abbrev T_sl_p_tree_Tree : Nat := 50
abbrev T_func_p_plexusref11_Tree : Nat := 51
abbrev T_func_int_api_Errno : Nat := 52
abbrev T_struct_parent_int_children_sl_int_lo_uint64_hi_uint64_free_uint64 : Nat := 53
abbrev T_tree_node : Nat := 54
abbrev T_func_int_uint64 : Nat := 55
abbrev T_func_sl_tree_node_sl_tree_node : Nat := 58
abbrev T_func_sl_int_sl_int : Nat := 59
abbrev T_sl_uint64 : Nat := 60
abbrev T_func_sl_uint64 : Nat := 61
abbrev T_p_tree_node : Nat := 62
abbrev T_uint64_uint64 : Nat := 63
abbrev T_func_uint64_uint64_uint64_uint64 : Nat := 64
abbrev T_func_uint64_uint64_uint64_uint64_uint64 : Nat := 65
abbrev T_uint : Nat := 66
abbrev T_interface_Error_string : Nat := 67
abbrev T_error : Nat := 68
abbrev T_func_uint64_int : Nat := 69
abbrev T_func_string : Nat := 70
abbrev T_struct__interface_p_abi_Type_concrete_p_abi_Type_asserted_p_abi_Type_missingMethod_string : Nat := 71
abbrev T_runtime_TypeAssertionError : Nat := 72
abbrev T_arr0_p_runtime_PanicNilError : Nat := 73
abbrev T_struct___arr0_p_runtime_PanicNilError : Nat := 74
abbrev T_runtime_PanicNilError : Nat := 75
abbrev T_uint32 : Nat := 76
abbrev T_abi_TFlag : Nat := 77
abbrev T_abi_Kind : Nat := 78
abbrev T_func_unsafe_Pointer_unsafe_Pointer_bool : Nat := 79
abbrev T_p_uint8 : Nat := 80
abbrev T_abi_NameOff : Nat := 81
abbrev T_abi_TypeOff : Nat := 82
abbrev T_struct_Size__uintptr_PtrBytes_uintptr_Hash_uint32_TFlag_abi_TFlag_Align__uint8_FieldAlign__uint8_Kind__abi_Kind_Equal_func_unsafe_Pointer_unsafe_Pointer_bool_GCData_p_uint8_Str_abi_NameOff_PtrToThis_abi_TypeOff : Nat := 83
abbrev T_abi_Type : Nat := 84
abbrev T_unsafe_Pointer : Nat := 85
abbrev gosem_cut_init.id : Nat := 2
abbrev law11_TreeIntervals.id : Nat := 3
abbrev law11_TreeDeep.id : Nat := 4
abbrev law11_TreeApart.id : Nat := 5
abbrev law11_TreePlays.id : Nat := 6
abbrev law11_TreeNil.id : Nat := 7
abbrev law11_known.id : Nat := 8
abbrev law11_begin.id : Nat := 9
abbrev law11_sound.id : Nat := 10
abbrev tree_Tree_Dealt.id : Nat := 11
abbrev tree_Tree_Interval.id : Nat := 12
abbrev ref11_Tree_Under.id : Nat := 13
abbrev tree_New.id : Nat := 14
abbrev tree_Tree_Add.id : Nat := 15
abbrev tree_Tree_Len.id : Nat := 16
abbrev tree_Tree_Under.id : Nat := 17
abbrev tree_Tree_Copy.id : Nat := 18
abbrev ref11_Tree_Add.id : Nat := 19
abbrev tree_Tree_Parent.id : Nat := 20
abbrev tree_Tree_Children.id : Nat := 21
abbrev tree_Tree_Depth.id : Nat := 22
abbrev tree_Tree_Size.id : Nat := 23
abbrev ref11_Tree_In.id : Nat := 24
abbrev ref11_Tree_Depth.id : Nat := 25
abbrev ref11_Tree_Size.id : Nat := 26
abbrev ref11_Tree_Children.id : Nat := 27
abbrev ref11_New.id : Nat := 28
abbrev tree_Tree_may.id : Nat := 29
abbrev tree_Tree_room.id : Nat := 30
abbrev tree_Tree_give.id : Nat := 31
abbrev tree_Tree_deal.id : Nat := 32
abbrev tree_Tree_in.id : Nat := 33
abbrev slices_Clone_of_tree_node.id : Nat := 34
abbrev slices_Clone_of_int.id : Nat := 35
abbrev tree_Tree_sizes.id : Nat := 36
abbrev bits_Mul64.id : Nat := 37
abbrev bits_Div64.id : Nat := 38
abbrev bits_LeadingZeros64.id : Nat := 39
abbrev bits_Len64.id : Nat := 40
theorem ng : NG Try.prog := by
  have h : (Try.prog.funcs.toList.all fun f => !(f.name == "runtime.NumGoroutine")) = true := by kernel_rfl
  intro g fn hf
  rw [List.all_eq_true] at h
  have := h fn (by simpa using Array.mem_of_getElem? hf)
  simpa using this
theorem mix : Try.prog.follows .mixedOrders = true := by kernel_rfl
/-! ### 11: (*plexus/tree.Tree).Dealt -/
def tree_Tree_Dealt.k : List Nat := []
def tree_Tree_Dealt.W (t1 : Option Addr) (K : Value → World → Prop) (w : World) : Prop :=
  Split ((t1).isNone) (K (.int .i64 0) w) (Is t1 fun a2 : Addr => ∃ t83 : Int, w.cell? (a2.add 1) = some (.int .i64 t83) ∧ K (.int .i64 t83) w)
theorem tree_Tree_Dealt.s (t1 : Option Addr) (K : Value → World → Prop) (w : World) : (codeW none [] Try.prog Try.f11.ntmps tree_Tree_Dealt.k (body Try.f11) (resSlots Try.f11) (funQ Try.f11 K) (argEnv [.pointer t1] 0) w) = tree_Tree_Dealt.W t1 K w := by kernel_rfl
theorem tree_Tree_Dealt.of {t1 : Option Addr} {K : Value → World → Prop} {w : World} (h : tree_Tree_Dealt.W t1 K w) : Ret Try.prog 11 #[.pointer t1] w K :=
  ret_of_eq (C := tree_Tree_Dealt.k) (fn := Try.f11) (c := body Try.f11) ng mix Try.func11 (by kernel_rfl) (by kernel_rfl) (tree_Tree_Dealt.s t1 K w) h
/-! ### 12: (*plexus/tree.Tree).Interval -/
def tree_Tree_Interval.k : List Nat := []
def tree_Tree_Interval.W (t1 : Option Addr) (n2 : Int) (K : Value → World → Prop) (w : World) : Prop :=
  Ret Try.prog 29 #[.pointer t1, .int .i64 n2] w fun v3 w_4 => ∃ t105 : Int, v3 = .int .i64 t105 ∧ Split (t105 != (0 : Int)) (K (.tuple #[.int .u64 0, .int .u64 0, .int .i64 t105]) w_4) (let w_6 : World := w_4.drew; Is t1 fun a7 : Addr => ∃ A_t178 : Option Addr, ∃ n_t178 : Nat, ∃ c_t178 : Nat, w_6.cell? (a7.add 0) = some (.slice A_t178 n_t178 c_t178) ∧ (0 ≤ n2 ∧ n2 < (n_t178 : Int)) ∧ Is A_t178 fun a9 : Addr => ∃ t2110 : Int, w_6.cell? ((a9.add (n2.toNat * 5)).add 2) = some (.int .u64 t2110) ∧ Is t1 fun a11 : Addr => ∃ A_t2512 : Option Addr, ∃ n_t2512 : Nat, ∃ c_t2512 : Nat, w_6.cell? (a11.add 0) = some (.slice A_t2512 n_t2512 c_t2512) ∧ (0 ≤ n2 ∧ n2 < (n_t2512 : Int)) ∧ Is A_t2512 fun a13 : Addr => ∃ t2914 : Int, w_6.cell? ((a13.add (n2.toNat * 5)).add 3) = some (.int .u64 t2914) ∧ K (.tuple #[.int .u64 t2110, .int .u64 t2914, .int .i64 0]) w_6)
theorem tree_Tree_Interval.s (t1 : Option Addr) (n2 : Int) (K : Value → World → Prop) (w : World) : (codeW none [] Try.prog Try.f12.ntmps tree_Tree_Interval.k (body Try.f12) (resSlots Try.f12) (funQ Try.f12 K) (argEnv [.pointer t1, .int .i64 n2] 0) w) = tree_Tree_Interval.W t1 n2 K w := by kernel_rfl
theorem tree_Tree_Interval.of {t1 : Option Addr} {n2 : Int} {K : Value → World → Prop} {w : World} (h : tree_Tree_Interval.W t1 n2 K w) : Ret Try.prog 12 #[.pointer t1, .int .i64 n2] w K :=
  ret_of_eq (C := tree_Tree_Interval.k) (fn := Try.f12) (c := body Try.f12) ng mix Try.func12 (by kernel_rfl) (by kernel_rfl) (tree_Tree_Interval.s t1 n2 K w) h
/-! ### 14: plexus/tree.New -/
def tree_New.k : List Nat := []
def tree_New.W  (K : Value → World → Prop) (w : World) : Prop :=
  5 = 5 ∧ let w_1 : World := w.alloc (.cells #[.int .i64 (-1), .slice none 0 0, .int .u64 1, .int .u64 4611686018427387904, .int .u64 1] 54); let w_2 : World := w_1.alloc (.cells #[.slice (some (⟨w.heap.size, 0, none⟩ : Addr)) 1 1, .int .i64 0] 49); K (.pointer (some (⟨w_1.heap.size, 0, none⟩ : Addr))) w_2
theorem tree_New.s  (K : Value → World → Prop) (w : World) : (codeW none [] Try.prog Try.f14.ntmps tree_New.k (body Try.f14) (resSlots Try.f14) (funQ Try.f14 K) (argEnv [] 0) w) = tree_New.W  K w := by kernel_rfl
theorem tree_New.of  {K : Value → World → Prop} {w : World} (h : tree_New.W  K w) : Ret Try.prog 14 #[] w K :=
  ret_of_eq (C := tree_New.k) (fn := Try.f14) (c := body Try.f14) ng mix Try.func14 (by kernel_rfl) (by kernel_rfl) (tree_New.s  K w) h
/-! ### 15: (*plexus/tree.Tree).Add -/
def tree_Tree_Add.k : List Nat := []
def tree_Tree_Add.W (t1 : Option Addr) (parent2 : Int) (K : Value → World → Prop) (w : World) : Prop :=
  Ret Try.prog 29 #[.pointer t1, .int .i64 parent2] w fun v3 w_4 => ∃ t115 : Int, v3 = .int .i64 t115 ∧ Split (t115 != (0 : Int)) (K (.tuple #[.int .i64 0, .int .i64 t115]) w_4) (Is t1 fun a6 : Addr => ∃ A_t187 : Option Addr, ∃ n_t187 : Nat, ∃ c_t187 : Nat, w_4.cell? (a6.add 0) = some (.slice A_t187 n_t187 c_t187) ∧ Is t1 fun a8 : Addr => ∃ A_t249 : Option Addr, ∃ n_t249 : Nat, ∃ c_t249 : Nat, w_4.cell? (a8.add 0) = some (.slice A_t249 n_t249 c_t249) ∧ 5 = 5 ∧ let w_10 : World := w_4.alloc (.cells #[.int .i64 parent2, .slice none 0 0, .int .u64 0, .int .u64 0, .int .u64 0] 54); ∃ (A_t2811 : Option Addr) (n_t2811 c_t2811 : Nat) (w_12 : World), (Builtin.append_ #[47, 47] 47 #[.slice A_t249 n_t249 c_t249, .slice (some (⟨w_4.heap.size, 0, none⟩ : Addr)) 1 1]).run Try.prog w_10 = .ok (.slice A_t2811 n_t2811 c_t2811) w_12 ∧ Is t1 fun a13 : Addr => Wr w_12 (a13.add 0) ∧ let w_14 : World := w_12.setCell (a13.add 0) (.slice A_t2811 n_t2811 c_t2811); let w_15 : World := w_14.drew; Is t1 fun a16 : Addr => ∃ A_t3417 : Option Addr, ∃ n_t3417 : Nat, ∃ c_t3417 : Nat, w_15.cell? (a16.add 0) = some (.slice A_t3417 n_t3417 c_t3417) ∧ Is t1 fun a18 : Addr => ∃ A_t3919 : Option Addr, ∃ n_t3919 : Nat, ∃ c_t3919 : Nat, w_15.cell? (a18.add 0) = some (.slice A_t3919 n_t3919 c_t3919) ∧ (0 ≤ parent2 ∧ parent2 < (n_t3919 : Int)) ∧ Is A_t3919 fun a20 : Addr => ∃ A_t4321 : Option Addr, ∃ n_t4321 : Nat, ∃ c_t4321 : Nat, w_15.cell? ((a20.add (parent2.toNat * 5)).add 1) = some (.slice A_t4321 n_t4321 c_t4321) ∧ let w_22 : World := w_15.alloc (.cells #[.int .i64 (n_t187 : Int)] 3); w_22.cell? ((a20.add (parent2.toNat * 5)).add 1) = some (.slice A_t4321 n_t4321 c_t4321) ∧ w_22.cell? (a18.add 0) = some (.slice A_t3919 n_t3919 c_t3919) ∧ w_22.cell? (a16.add 0) = some (.slice A_t3417 n_t3417 c_t3417) ∧ ∃ (A_t4623 : Option Addr) (n_t4623 c_t4623 : Nat) (w_24 : World), (Builtin.append_ #[22, 22] 22 #[.slice A_t4321 n_t4321 c_t4321, .slice (some (⟨w_15.heap.size, 0, none⟩ : Addr)) 1 1]).run Try.prog w_22 = .ok (.slice A_t4623 n_t4623 c_t4623) w_24 ∧ w_24.cell? (a16.add 0) = some (.slice A_t3417 n_t3417 c_t3417) ∧ (0 ≤ parent2 ∧ parent2 < (n_t3417 : Int)) ∧ Is A_t3417 fun a25 : Addr => Wr w_24 ((a25.add (parent2.toNat * 5)).add 1) ∧ let w_26 : World := w_24.setCell ((a25.add (parent2.toNat * 5)).add 1) (.slice A_t4623 n_t4623 c_t4623); Ret Try.prog 30 #[.pointer t1, .int .i64 parent2] w_26 fun v27 w_28 => ∃ t5129 : Int, v27 = .int .u64 t5129 ∧ Split (decide (t5129 > (0 : Int))) ((2 : Int) ≠ 0 ∧ Ret Try.prog 31 #[.pointer t1, .int .i64 (n_t187 : Int), .int .u64 (IntKind.u64.wrap ((IntKind.u64.wrap (t5129 + (1 : Int))).tdiv (2 : Int)))] w_28 fun v30 w_31 => v30 = .tuple #[] ∧ K (.tuple #[.int .i64 (n_t187 : Int), .int .i64 0]) w_31) (Ret Try.prog 32 #[.pointer t1, .int .i64 parent2] w_28 fun v32 w_33 => v32 = .tuple #[] ∧ K (.tuple #[.int .i64 (n_t187 : Int), .int .i64 0]) w_33))
theorem tree_Tree_Add.s (t1 : Option Addr) (parent2 : Int) (K : Value → World → Prop) (w : World) : (codeW none [] Try.prog Try.f15.ntmps tree_Tree_Add.k (body Try.f15) (resSlots Try.f15) (funQ Try.f15 K) (argEnv [.pointer t1, .int .i64 parent2] 0) w) = tree_Tree_Add.W t1 parent2 K w := by kernel_rfl
theorem tree_Tree_Add.of {t1 : Option Addr} {parent2 : Int} {K : Value → World → Prop} {w : World} (h : tree_Tree_Add.W t1 parent2 K w) : Ret Try.prog 15 #[.pointer t1, .int .i64 parent2] w K :=
  ret_of_eq (C := tree_Tree_Add.k) (fn := Try.f15) (c := body Try.f15) ng mix Try.func15 (by kernel_rfl) (by kernel_rfl) (tree_Tree_Add.s t1 parent2 K w) h
/-! ### 16: (*plexus/tree.Tree).Len -/
def tree_Tree_Len.k : List Nat := []
def tree_Tree_Len.W (t1 : Option Addr) (K : Value → World → Prop) (w : World) : Prop :=
  Split ((t1).isNone) (K (.int .i64 0) w) (Is t1 fun a2 : Addr => ∃ A_t83 : Option Addr, ∃ n_t83 : Nat, ∃ c_t83 : Nat, w.cell? (a2.add 0) = some (.slice A_t83 n_t83 c_t83) ∧ K (.int .i64 (n_t83 : Int)) w)
theorem tree_Tree_Len.s (t1 : Option Addr) (K : Value → World → Prop) (w : World) : (codeW none [] Try.prog Try.f16.ntmps tree_Tree_Len.k (body Try.f16) (resSlots Try.f16) (funQ Try.f16 K) (argEnv [.pointer t1] 0) w) = tree_Tree_Len.W t1 K w := by kernel_rfl
theorem tree_Tree_Len.of {t1 : Option Addr} {K : Value → World → Prop} {w : World} (h : tree_Tree_Len.W t1 K w) : Ret Try.prog 16 #[.pointer t1] w K :=
  ret_of_eq (C := tree_Tree_Len.k) (fn := Try.f16) (c := body Try.f16) ng mix Try.func16 (by kernel_rfl) (by kernel_rfl) (tree_Tree_Len.s t1 K w) h
/-! ### 20: (*plexus/tree.Tree).Parent -/
def tree_Tree_Parent.k : List Nat := []
def tree_Tree_Parent.W (t1 : Option Addr) (n2 : Int) (K : Value → World → Prop) (w : World) : Prop :=
  Ret Try.prog 29 #[.pointer t1, .int .i64 n2] w fun v3 w_4 => ∃ t95 : Int, v3 = .int .i64 t95 ∧ Split (t95 == (0 : Int)) (Split (n2 == (0 : Int)) (Split ((6 : Int) != (0 : Int)) (K (.tuple #[.int .i64 0, .int .i64 6]) w_4) (Is t1 fun a6 : Addr => ∃ A_t227 : Option Addr, ∃ n_t227 : Nat, ∃ c_t227 : Nat, w_4.cell? (a6.add 0) = some (.slice A_t227 n_t227 c_t227) ∧ (0 ≤ n2 ∧ n2 < (n_t227 : Int)) ∧ Is A_t227 fun a8 : Addr => ∃ t269 : Int, w_4.cell? ((a8.add (n2.toNat * 5)).add 0) = some (.int .i64 t269) ∧ K (.tuple #[.int .i64 t269, .int .i64 0]) w_4)) (Split (t95 != (0 : Int)) (K (.tuple #[.int .i64 0, .int .i64 t95]) w_4) (Is t1 fun a10 : Addr => ∃ A_t2211 : Option Addr, ∃ n_t2211 : Nat, ∃ c_t2211 : Nat, w_4.cell? (a10.add 0) = some (.slice A_t2211 n_t2211 c_t2211) ∧ (0 ≤ n2 ∧ n2 < (n_t2211 : Int)) ∧ Is A_t2211 fun a12 : Addr => ∃ t2613 : Int, w_4.cell? ((a12.add (n2.toNat * 5)).add 0) = some (.int .i64 t2613) ∧ K (.tuple #[.int .i64 t2613, .int .i64 0]) w_4))) (Split (t95 != (0 : Int)) (K (.tuple #[.int .i64 0, .int .i64 t95]) w_4) (Is t1 fun a14 : Addr => ∃ A_t2215 : Option Addr, ∃ n_t2215 : Nat, ∃ c_t2215 : Nat, w_4.cell? (a14.add 0) = some (.slice A_t2215 n_t2215 c_t2215) ∧ (0 ≤ n2 ∧ n2 < (n_t2215 : Int)) ∧ Is A_t2215 fun a16 : Addr => ∃ t2617 : Int, w_4.cell? ((a16.add (n2.toNat * 5)).add 0) = some (.int .i64 t2617) ∧ K (.tuple #[.int .i64 t2617, .int .i64 0]) w_4))
theorem tree_Tree_Parent.s (t1 : Option Addr) (n2 : Int) (K : Value → World → Prop) (w : World) : (codeW none [] Try.prog Try.f20.ntmps tree_Tree_Parent.k (body Try.f20) (resSlots Try.f20) (funQ Try.f20 K) (argEnv [.pointer t1, .int .i64 n2] 0) w) = tree_Tree_Parent.W t1 n2 K w := by kernel_rfl
theorem tree_Tree_Parent.of {t1 : Option Addr} {n2 : Int} {K : Value → World → Prop} {w : World} (h : tree_Tree_Parent.W t1 n2 K w) : Ret Try.prog 20 #[.pointer t1, .int .i64 n2] w K :=
  ret_of_eq (C := tree_Tree_Parent.k) (fn := Try.f20) (c := body Try.f20) ng mix Try.func20 (by kernel_rfl) (by kernel_rfl) (tree_Tree_Parent.s t1 n2 K w) h
/-! ### 21: (*plexus/tree.Tree).Children -/
def tree_Tree_Children.k : List Nat := []
def tree_Tree_Children.W (t1 : Option Addr) (n2 : Int) (K : Value → World → Prop) (w : World) : Prop :=
  Ret Try.prog 29 #[.pointer t1, .int .i64 n2] w fun v3 w_4 => ∃ t95 : Int, v3 = .int .i64 t95 ∧ Split (t95 != (0 : Int)) (K (.tuple #[.slice none 0 0, .int .i64 t95]) w_4) (Is t1 fun a6 : Addr => ∃ A_t167 : Option Addr, ∃ n_t167 : Nat, ∃ c_t167 : Nat, w_4.cell? (a6.add 0) = some (.slice A_t167 n_t167 c_t167) ∧ (0 ≤ n2 ∧ n2 < (n_t167 : Int)) ∧ Is A_t167 fun a8 : Addr => ∃ A_t209 : Option Addr, ∃ n_t209 : Nat, ∃ c_t209 : Nat, w_4.cell? ((a8.add (n2.toNat * 5)).add 1) = some (.slice A_t209 n_t209 c_t209) ∧ Ret Try.prog 35 #[.slice A_t209 n_t209 c_t209] w_4 fun v10 w_11 => ∃ A_t2112 : Option Addr, ∃ n_t2112 : Nat, ∃ c_t2112 : Nat, v10 = .slice A_t2112 n_t2112 c_t2112 ∧ K (.tuple #[.slice A_t2112 n_t2112 c_t2112, .int .i64 0]) w_11)
theorem tree_Tree_Children.s (t1 : Option Addr) (n2 : Int) (K : Value → World → Prop) (w : World) : (codeW none [] Try.prog Try.f21.ntmps tree_Tree_Children.k (body Try.f21) (resSlots Try.f21) (funQ Try.f21 K) (argEnv [.pointer t1, .int .i64 n2] 0) w) = tree_Tree_Children.W t1 n2 K w := by kernel_rfl
theorem tree_Tree_Children.of {t1 : Option Addr} {n2 : Int} {K : Value → World → Prop} {w : World} (h : tree_Tree_Children.W t1 n2 K w) : Ret Try.prog 21 #[.pointer t1, .int .i64 n2] w K :=
  ret_of_eq (C := tree_Tree_Children.k) (fn := Try.f21) (c := body Try.f21) ng mix Try.func21 (by kernel_rfl) (by kernel_rfl) (tree_Tree_Children.s t1 n2 K w) h
/-! ### 22: (*plexus/tree.Tree).Depth -/
def tree_Tree_Depth.k : List Nat := []
def tree_Tree_Depth.q1 (K : Value → World → Prop) : Post := (blockQ 0 (uses (sR (sR (sR (sR (body Try.f22))))) ++ (resSlots Try.f22)) (thenQ (fun ρ_ w_ => match cutAt tree_Tree_Depth.k (sR (sR (sR (sR (body Try.f22))))) with | true => Holds none [] Try.prog 27 (sR (sR (sR (sR (body Try.f22))))) (funQ Try.f22 K) ρ_ w_ | false => codeW none [] Try.prog 27 tree_Tree_Depth.k (sR (sR (sR (sR (body Try.f22))))) (resSlots Try.f22) (funQ Try.f22 K) ρ_ w_) (funQ Try.f22 K)))
def tree_Tree_Depth.e1 (t6 : Option Addr) (t48 : Int) (t59 : Int) (s : Int × Int) : Env := [(0, .pointer t6), (1, .int .i64 s.1), (4, .int .i64 t48), (5, .int .i64 t59), (7, .int .i64 s.2)]
def tree_Tree_Depth.u1 : List Nat := [0, 1, 4, 5, 7]
def tree_Tree_Depth.W (t1 : Option Addr) (n2 : Int) (K : Value → World → Prop) (w : World) : Prop :=
  Ret Try.prog 29 #[.pointer t1, .int .i64 n2] w fun v3 w_4 => ∃ t105 : Int, v3 = .int .i64 t105 ∧ Split (t105 != (0 : Int)) (K (.tuple #[.int .i64 0, .int .i64 t105]) w_4) (Holds none [] Try.prog 27 (.loop (lB (bB (sL (sR (sR (sR (body Try.f22)))))))) (tree_Tree_Depth.q1 K) [(0, .pointer t1), (1, .int .i64 n2), (4, .int .i64 0), (5, .int .i64 0), (7, .int .i64 0)] w_4)
theorem tree_Tree_Depth.s (t1 : Option Addr) (n2 : Int) (K : Value → World → Prop) (w : World) : (codeW none [] Try.prog Try.f22.ntmps tree_Tree_Depth.k (body Try.f22) (resSlots Try.f22) (funQ Try.f22 K) (argEnv [.pointer t1, .int .i64 n2] 0) w) = tree_Tree_Depth.W t1 n2 K w := by kernel_rfl
theorem tree_Tree_Depth.of {t1 : Option Addr} {n2 : Int} {K : Value → World → Prop} {w : World} (h : tree_Tree_Depth.W t1 n2 K w) : Ret Try.prog 22 #[.pointer t1, .int .i64 n2] w K :=
  ret_of_eq (C := tree_Tree_Depth.k) (fn := Try.f22) (c := body Try.f22) ng mix Try.func22 (by kernel_rfl) (by kernel_rfl) (tree_Tree_Depth.s t1 n2 K w) h
def tree_Tree_Depth.B1 (t6 : Option Addr) (n7 : Int) (t48 : Int) (t59 : Int) (d10 : Int) (Q : Post) (w : World) : Prop :=
  Split (decide (n7 > (0 : Int))) (Is t6 fun a11 : Addr => ∃ A_t1912 : Option Addr, ∃ n_t1912 : Nat, ∃ c_t1912 : Nat, w.cell? (a11.add 0) = some (.slice A_t1912 n_t1912 c_t1912) ∧ (0 ≤ n7 ∧ n7 < (n_t1912 : Int)) ∧ Is A_t1912 fun a13 : Addr => ∃ t2314 : Int, w.cell? ((a13.add (n7.toNat * 5)).add 0) = some (.int .i64 t2314) ∧ Q .normal [(0, .pointer t6), (1, .int .i64 t2314), (4, .int .i64 t48), (5, .int .i64 t59), (7, .int .i64 (IntKind.i64.wrap (d10 + (1 : Int))))] w) (Q (.exit 0) [(0, .pointer t6), (1, .int .i64 n7), (4, .int .i64 t48), (5, .int .i64 t59), (7, .int .i64 d10)] w)
theorem tree_Tree_Depth.b1 (t6 : Option Addr) (n7 : Int) (t48 : Int) (t59 : Int) (d10 : Int) (Q : Post) (w : World) : (codeW none [] Try.prog 27 tree_Tree_Depth.k (lB (bB (sL (sR (sR (sR (body Try.f22))))))) tree_Tree_Depth.u1 Q [(0, .pointer t6), (1, .int .i64 n7), (4, .int .i64 t48), (5, .int .i64 t59), (7, .int .i64 d10)] w) = tree_Tree_Depth.B1 t6 n7 t48 t59 d10 Q w := by kernel_rfl
theorem tree_Tree_Depth.loop1 {t6 : Option Addr} {t48 : Int} {t59 : Int} (I : Int × Int → World → Prop) (μ : Int × Int → World → Nat) (s : Int × Int) {Q : Post} {w : World} (h0 : I s w)
    (round : ∀ s w, I s w → tree_Tree_Depth.B1 t6 (s.1) t48 t59 (s.2) (roundQ (tree_Tree_Depth.e1 t6 t48 t59) I μ s w Q) w) : Holds none [] Try.prog 27 (.loop (lB (bB (sL (sR (sR (sR (body Try.f22)))))))) Q (tree_Tree_Depth.e1 t6 t48 t59 s) w :=
  loop_of_eq ng mix (tree_Tree_Depth.e1 t6 t48 t59) I μ tree_Tree_Depth.k tree_Tree_Depth.u1 s (fun s Q w => tree_Tree_Depth.B1 t6 (s.1) t48 t59 (s.2) Q w) (fun s Q w => tree_Tree_Depth.b1 t6 (s.1) t48 t59 (s.2) Q w) h0 round
def tree_Tree_Depth.X1_0 (t15 : Option Addr) (n16 : Int) (t417 : Int) (t518 : Int) (d19 : Int) (K : Value → World → Prop) (w : World) : Prop :=
  K (.tuple #[.int .i64 d19, .int .i64 0]) w
theorem tree_Tree_Depth.x1_0 (t15 : Option Addr) (n16 : Int) (t417 : Int) (t518 : Int) (d19 : Int) (K : Value → World → Prop) (w : World) : (tree_Tree_Depth.q1 K (.exit 0) [(0, .pointer t15), (1, .int .i64 n16), (4, .int .i64 t417), (5, .int .i64 t518), (7, .int .i64 d19)] w) = tree_Tree_Depth.X1_0 t15 n16 t417 t518 d19 K w := by kernel_rfl
/-! ### 23: (*plexus/tree.Tree).Size -/
def tree_Tree_Size.k : List Nat := []
def tree_Tree_Size.W (t1 : Option Addr) (n2 : Int) (K : Value → World → Prop) (w : World) : Prop :=
  Ret Try.prog 29 #[.pointer t1, .int .i64 n2] w fun v3 w_4 => ∃ t95 : Int, v3 = .int .i64 t95 ∧ Split (t95 != (0 : Int)) (K (.tuple #[.int .i64 0, .int .i64 t95]) w_4) (Ret Try.prog 36 #[.pointer t1] w_4 fun v6 w_7 => ∃ A_t148 : Option Addr, ∃ n_t148 : Nat, ∃ c_t148 : Nat, v6 = .slice A_t148 n_t148 c_t148 ∧ (0 ≤ n2 ∧ n2 < (n_t148 : Int)) ∧ Is A_t148 fun a9 : Addr => ∃ t1710 : Int, w_7.cell? (a9.add (n2.toNat * 1)) = some (.int .u64 t1710) ∧ K (.tuple #[.int .i64 (IntKind.i64.wrap t1710), .int .i64 0]) w_7)
theorem tree_Tree_Size.s (t1 : Option Addr) (n2 : Int) (K : Value → World → Prop) (w : World) : (codeW none [] Try.prog Try.f23.ntmps tree_Tree_Size.k (body Try.f23) (resSlots Try.f23) (funQ Try.f23 K) (argEnv [.pointer t1, .int .i64 n2] 0) w) = tree_Tree_Size.W t1 n2 K w := by kernel_rfl
theorem tree_Tree_Size.of {t1 : Option Addr} {n2 : Int} {K : Value → World → Prop} {w : World} (h : tree_Tree_Size.W t1 n2 K w) : Ret Try.prog 23 #[.pointer t1, .int .i64 n2] w K :=
  ret_of_eq (C := tree_Tree_Size.k) (fn := Try.f23) (c := body Try.f23) ng mix Try.func23 (by kernel_rfl) (by kernel_rfl) (tree_Tree_Size.s t1 n2 K w) h
/-! ### 29: (*plexus/tree.Tree).may -/
def tree_Tree_may.k : List Nat := []
def tree_Tree_may.W (t1 : Option Addr) (n2 : Int) (K : Value → World → Prop) (w : World) : Prop :=
  Split ((t1).isNone) (K (.int .i64 1) w) (Is t1 fun a3 : Addr => ∃ A_t124 : Option Addr, ∃ n_t124 : Nat, ∃ c_t124 : Nat, w.cell? (a3.add 0) = some (.slice A_t124 n_t124 c_t124) ∧ Split ((n_t124 : Int) == (0 : Int)) (K (.int .i64 1) w) (Ret Try.prog 33 #[.pointer t1, .int .i64 n2] w fun v5 w_6 => ∃ t197 : Bool, v5 = .bool t197 ∧ Split (!t197) (K (.int .i64 6) w_6) (K (.int .i64 0) w_6)))
theorem tree_Tree_may.s (t1 : Option Addr) (n2 : Int) (K : Value → World → Prop) (w : World) : (codeW none [] Try.prog Try.f29.ntmps tree_Tree_may.k (body Try.f29) (resSlots Try.f29) (funQ Try.f29 K) (argEnv [.pointer t1, .int .i64 n2] 0) w) = tree_Tree_may.W t1 n2 K w := by kernel_rfl
theorem tree_Tree_may.of {t1 : Option Addr} {n2 : Int} {K : Value → World → Prop} {w : World} (h : tree_Tree_may.W t1 n2 K w) : Ret Try.prog 29 #[.pointer t1, .int .i64 n2] w K :=
  ret_of_eq (C := tree_Tree_may.k) (fn := Try.f29) (c := body Try.f29) ng mix Try.func29 (by kernel_rfl) (by kernel_rfl) (tree_Tree_may.s t1 n2 K w) h
/-! ### 30: (*plexus/tree.Tree).room -/
def tree_Tree_room.k : List Nat := []
def tree_Tree_room.W (t1 : Option Addr) (n2 : Int) (K : Value → World → Prop) (w : World) : Prop :=
  let w_3 : World := w.drew; Is t1 fun a4 : Addr => ∃ A_t85 : Option Addr, ∃ n_t85 : Nat, ∃ c_t85 : Nat, w_3.cell? (a4.add 0) = some (.slice A_t85 n_t85 c_t85) ∧ (0 ≤ n2 ∧ n2 < (n_t85 : Int)) ∧ Is A_t85 fun a6 : Addr => ∃ t127 : Int, w_3.cell? ((a6.add (n2.toNat * 5)).add 3) = some (.int .u64 t127) ∧ Is t1 fun a8 : Addr => ∃ A_t169 : Option Addr, ∃ n_t169 : Nat, ∃ c_t169 : Nat, w_3.cell? (a8.add 0) = some (.slice A_t169 n_t169 c_t169) ∧ (0 ≤ n2 ∧ n2 < (n_t169 : Int)) ∧ Is A_t169 fun a10 : Addr => ∃ t2011 : Int, w_3.cell? ((a10.add (n2.toNat * 5)).add 4) = some (.int .u64 t2011) ∧ K (.int .u64 (IntKind.u64.wrap (t127 - t2011))) w_3
theorem tree_Tree_room.s (t1 : Option Addr) (n2 : Int) (K : Value → World → Prop) (w : World) : (codeW none [] Try.prog Try.f30.ntmps tree_Tree_room.k (body Try.f30) (resSlots Try.f30) (funQ Try.f30 K) (argEnv [.pointer t1, .int .i64 n2] 0) w) = tree_Tree_room.W t1 n2 K w := by kernel_rfl
theorem tree_Tree_room.of {t1 : Option Addr} {n2 : Int} {K : Value → World → Prop} {w : World} (h : tree_Tree_room.W t1 n2 K w) : Ret Try.prog 30 #[.pointer t1, .int .i64 n2] w K :=
  ret_of_eq (C := tree_Tree_room.k) (fn := Try.f30) (c := body Try.f30) ng mix Try.func30 (by kernel_rfl) (by kernel_rfl) (tree_Tree_room.s t1 n2 K w) h
/-! ### 31: (*plexus/tree.Tree).give -/
def tree_Tree_give.k : List Nat := []
def tree_Tree_give.W (t1 : Option Addr) (n2 : Int) (many3 : Int) (K : Value → World → Prop) (w : World) : Prop :=
  Is t1 fun a4 : Addr => ∃ A_t115 : Option Addr, ∃ n_t115 : Nat, ∃ c_t115 : Nat, w.cell? (a4.add 0) = some (.slice A_t115 n_t115 c_t115) ∧ (0 ≤ n2 ∧ n2 < (n_t115 : Int)) ∧ Is A_t115 fun a6 : Addr => let w_7 : World := w.drew; Is t1 fun a8 : Addr => ∃ A_t179 : Option Addr, ∃ n_t179 : Nat, ∃ c_t179 : Nat, w_7.cell? (a8.add 0) = some (.slice A_t179 n_t179 c_t179) ∧ ∃ t2110 : Int, w_7.cell? ((a6.add (n2.toNat * 5)).add 0) = some (.int .i64 t2110) ∧ (0 ≤ t2110 ∧ t2110 < (n_t179 : Int)) ∧ Is A_t179 fun a11 : Addr => ∃ t2712 : Int, w_7.cell? ((a11.add (t2110.toNat * 5)).add 4) = some (.int .u64 t2712) ∧ Wr w_7 ((a6.add (n2.toNat * 5)).add 2) ∧ let w_13 : World := w_7.setCell ((a6.add (n2.toNat * 5)).add 2) (.int .u64 t2712); ∃ t3414 : Int, w_13.cell? ((a6.add (n2.toNat * 5)).add 2) = some (.int .u64 t3414) ∧ Wr w_13 ((a6.add (n2.toNat * 5)).add 3) ∧ let w_15 : World := w_13.setCell ((a6.add (n2.toNat * 5)).add 3) (.int .u64 (IntKind.u64.wrap ((IntKind.u64.wrap (t3414 + many3)) - (1 : Int)))); ∃ t4416 : Int, w_15.cell? ((a6.add (n2.toNat * 5)).add 2) = some (.int .u64 t4416) ∧ Wr w_15 ((a6.add (n2.toNat * 5)).add 4) ∧ let w_17 : World := w_15.setCell ((a6.add (n2.toNat * 5)).add 4) (.int .u64 t4416); ∃ t5018 : Int, w_17.cell? ((a11.add (t2110.toNat * 5)).add 4) = some (.int .u64 t5018) ∧ Wr w_17 ((a11.add (t2110.toNat * 5)).add 4) ∧ let w_19 : World := w_17.setCell ((a11.add (t2110.toNat * 5)).add 4) (.int .u64 (IntKind.u64.wrap (t5018 + many3))); K (.tuple #[]) w_19
theorem tree_Tree_give.s (t1 : Option Addr) (n2 : Int) (many3 : Int) (K : Value → World → Prop) (w : World) : (codeW none [] Try.prog Try.f31.ntmps tree_Tree_give.k (body Try.f31) (resSlots Try.f31) (funQ Try.f31 K) (argEnv [.pointer t1, .int .i64 n2, .int .u64 many3] 0) w) = tree_Tree_give.W t1 n2 many3 K w := by kernel_rfl
theorem tree_Tree_give.of {t1 : Option Addr} {n2 : Int} {many3 : Int} {K : Value → World → Prop} {w : World} (h : tree_Tree_give.W t1 n2 many3 K w) : Ret Try.prog 31 #[.pointer t1, .int .i64 n2, .int .u64 many3] w K :=
  ret_of_eq (C := tree_Tree_give.k) (fn := Try.f31) (c := body Try.f31) ng mix Try.func31 (by kernel_rfl) (by kernel_rfl) (tree_Tree_give.s t1 n2 many3 K w) h
/-! ### 33: (*plexus/tree.Tree).in -/
def tree_Tree_in.k : List Nat := []
def tree_Tree_in.W (t1 : Option Addr) (n2 : Int) (K : Value → World → Prop) (w : World) : Prop :=
  Split (!(t1).isNone) (Split (decide (n2 ≥ (0 : Int))) (Is t1 fun a3 : Addr => ∃ A_t164 : Option Addr, ∃ n_t164 : Nat, ∃ c_t164 : Nat, w.cell? (a3.add 0) = some (.slice A_t164 n_t164 c_t164) ∧ K (.bool (decide (n2 < (n_t164 : Int)))) w) (K (.bool false) w)) (K (.bool false) w)
theorem tree_Tree_in.s (t1 : Option Addr) (n2 : Int) (K : Value → World → Prop) (w : World) : (codeW none [] Try.prog Try.f33.ntmps tree_Tree_in.k (body Try.f33) (resSlots Try.f33) (funQ Try.f33 K) (argEnv [.pointer t1, .int .i64 n2] 0) w) = tree_Tree_in.W t1 n2 K w := by kernel_rfl
theorem tree_Tree_in.of {t1 : Option Addr} {n2 : Int} {K : Value → World → Prop} {w : World} (h : tree_Tree_in.W t1 n2 K w) : Ret Try.prog 33 #[.pointer t1, .int .i64 n2] w K :=
  ret_of_eq (C := tree_Tree_in.k) (fn := Try.f33) (c := body Try.f33) ng mix Try.func33 (by kernel_rfl) (by kernel_rfl) (tree_Tree_in.s t1 n2 K w) h
/-! ### 34: slices.Clone[[]plexus/tree.node,plexus/tree.node] -/
def slices_Clone_of_tree_node.k : List Nat := []
def slices_Clone_of_tree_node.W (A_s1 : Option Addr) (n_s1 : Nat) (c_s1 : Nat) (K : Value → World → Prop) (w : World) : Prop :=
  Split ((A_s1).isNone) (K (.slice none 0 0) w) (let w_2 : World := w.alloc (.cells #[] 54); ∃ (A_t73 : Option Addr) (n_t73 c_t73 : Nat) (w_4 : World), (Builtin.append_ #[47, 47] 47 #[.slice (some (⟨w.heap.size, 0, none⟩ : Addr)) 0 0, .slice A_s1 n_s1 c_s1]).run Try.prog w_2 = .ok (.slice A_t73 n_t73 c_t73) w_4 ∧ K (.slice A_t73 n_t73 c_t73) w_4)
theorem slices_Clone_of_tree_node.s (A_s1 : Option Addr) (n_s1 : Nat) (c_s1 : Nat) (K : Value → World → Prop) (w : World) : (codeW none [] Try.prog Try.f34.ntmps slices_Clone_of_tree_node.k (body Try.f34) (resSlots Try.f34) (funQ Try.f34 K) (argEnv [.slice A_s1 n_s1 c_s1] 0) w) = slices_Clone_of_tree_node.W A_s1 n_s1 c_s1 K w := by kernel_rfl
theorem slices_Clone_of_tree_node.of {A_s1 : Option Addr} {n_s1 : Nat} {c_s1 : Nat} {K : Value → World → Prop} {w : World} (h : slices_Clone_of_tree_node.W A_s1 n_s1 c_s1 K w) : Ret Try.prog 34 #[.slice A_s1 n_s1 c_s1] w K :=
  ret_of_eq (C := slices_Clone_of_tree_node.k) (fn := Try.f34) (c := body Try.f34) ng mix Try.func34 (by kernel_rfl) (by kernel_rfl) (slices_Clone_of_tree_node.s A_s1 n_s1 c_s1 K w) h
/-! ### 35: slices.Clone[[]int,int] -/
def slices_Clone_of_int.k : List Nat := []
def slices_Clone_of_int.W (A_s1 : Option Addr) (n_s1 : Nat) (c_s1 : Nat) (K : Value → World → Prop) (w : World) : Prop :=
  Split ((A_s1).isNone) (K (.slice none 0 0) w) (let w_2 : World := w.alloc (.cells #[] 3); ∃ (A_t73 : Option Addr) (n_t73 c_t73 : Nat) (w_4 : World), (Builtin.append_ #[22, 22] 22 #[.slice (some (⟨w.heap.size, 0, none⟩ : Addr)) 0 0, .slice A_s1 n_s1 c_s1]).run Try.prog w_2 = .ok (.slice A_t73 n_t73 c_t73) w_4 ∧ K (.slice A_t73 n_t73 c_t73) w_4)
theorem slices_Clone_of_int.s (A_s1 : Option Addr) (n_s1 : Nat) (c_s1 : Nat) (K : Value → World → Prop) (w : World) : (codeW none [] Try.prog Try.f35.ntmps slices_Clone_of_int.k (body Try.f35) (resSlots Try.f35) (funQ Try.f35 K) (argEnv [.slice A_s1 n_s1 c_s1] 0) w) = slices_Clone_of_int.W A_s1 n_s1 c_s1 K w := by kernel_rfl
theorem slices_Clone_of_int.of {A_s1 : Option Addr} {n_s1 : Nat} {c_s1 : Nat} {K : Value → World → Prop} {w : World} (h : slices_Clone_of_int.W A_s1 n_s1 c_s1 K w) : Ret Try.prog 35 #[.slice A_s1 n_s1 c_s1] w K :=
  ret_of_eq (C := slices_Clone_of_int.k) (fn := Try.f35) (c := body Try.f35) ng mix Try.func35 (by kernel_rfl) (by kernel_rfl) (slices_Clone_of_int.s A_s1 n_s1 c_s1 K w) h
/-! ### 39: math/bits.LeadingZeros64 -/
def bits_LeadingZeros64.k : List Nat := []
def bits_LeadingZeros64.W (x1 : Int) (K : Value → World → Prop) (w : World) : Prop :=
  Ret Try.prog 40 #[.int .u64 x1] w fun v2 w_3 => ∃ t44 : Int, v2 = .int .i64 t44 ∧ K (.int .i64 (IntKind.i64.wrap ((64 : Int) - t44))) w_3
theorem bits_LeadingZeros64.s (x1 : Int) (K : Value → World → Prop) (w : World) : (codeW none [] Try.prog Try.f39.ntmps bits_LeadingZeros64.k (body Try.f39) (resSlots Try.f39) (funQ Try.f39 K) (argEnv [.int .u64 x1] 0) w) = bits_LeadingZeros64.W x1 K w := by kernel_rfl
theorem bits_LeadingZeros64.of {x1 : Int} {K : Value → World → Prop} {w : World} (h : bits_LeadingZeros64.W x1 K w) : Ret Try.prog 39 #[.int .u64 x1] w K :=
  ret_of_eq (C := bits_LeadingZeros64.k) (fn := Try.f39) (c := body Try.f39) ng mix Try.func39 (by kernel_rfl) (by kernel_rfl) (bits_LeadingZeros64.s x1 K w) h
end Go.Proofs.Ytehkokfjfjefnaa
