/-
  The parts of the functions' texts, as the small calculus tells them: each by the kernel. Written by our gen.py.
-/
import Derived.Test.YtljckpecmlnbiaaProg
import Derived.Test.YtljckpecmlnbiaaMA
set_option linter.unusedVariables false
namespace Go.Proofs.Ytljckpecmlnbiaa
open Go Go.Lite
abbrev T_ : Nat := 0
abbrev T_func : Nat := 1
abbrev T_int64 : Nat := 2
abbrev T_int : Nat := 3
abbrev T_bool : Nat := 4
abbrev T_uint8 : Nat := 5
abbrev T_abi_BoundsErrorCode : Nat := 6
abbrev T_struct_x_int64_y_int_signed_bool_code_abi_BoundsErrorCode : Nat := 7
abbrev T_runtime_boundsError : Nat := 8
abbrev T_string : Nat := 9
abbrev T_runtime_errorString : Nat := 10
abbrev T_runtime_plainError : Nat := 11
abbrev T_uintptr : Nat := 12
abbrev T_struct_msg_string_addr_uintptr : Nat := 13
abbrev T_runtime_errorAddressString : Nat := 14
abbrev T_p_runtime_TypeAssertionError : Nat := 15
abbrev T_p_runtime_PanicNilError : Nat := 16
abbrev T_p_abi_Type : Nat := 17
abbrev T_struct_typ_p_abi_Type : Nat := 18
abbrev T_maps_unhashableTypeError : Nat := 19
abbrev T_interface : Nat := 20
abbrev T_int32 : Nat := 21
abbrev T_arr32_uint8 : Nat := 22
abbrev T_api_Hash : Nat := 23
abbrev T_sl_api_Hash : Nat := 24
abbrev T_func_bool : Nat := 25
abbrev T_func_sl_api_Hash_sl_api_Hash : Nat := 26
abbrev T_func_api_Hash_api_Hash_int : Nat := 27
abbrev T_func_sl_api_Hash_sl_api_Hash_bool : Nat := 28
abbrev T_func_api_Hash_api_Hash_sl_api_Hash_bool : Nat := 29
abbrev T_p_dag_Graph : Nat := 30
abbrev T_func_api_Hash_p_dag_Graph : Nat := 31
abbrev T_api_Errno : Nat := 32
abbrev T_func_api_Hash_api_Hash_api_Errno : Nat := 33
abbrev T_func_api_Hash_sl_api_Hash : Nat := 34
abbrev T_func_api_Hash_api_Hash_bool : Nat := 35
abbrev T_func_iter_Seqarrplexus_api_Hash__func_api_Hash_api_Hash_int_sl_api_Hash : Nat := 36
abbrev T_func_func_api_Hash_bool : Nat := 37
abbrev T_iter_Seqarrplexus_api_Hash : Nat := 38
abbrev T_func_sl_api_Hash_iter_Seqarrplexus_api_Hash : Nat := 39
abbrev T_func_sl_uint8_sl_uint8_int : Nat := 40
abbrev T_sl_uint8 : Nat := 41
abbrev T_func_sl_api_Hash_api_Hash_bool : Nat := 42
abbrev T_p_dag_node : Nat := 43
abbrev T_sl_uint64 : Nat := 44
abbrev T_dag_row : Nat := 45
abbrev T_struct_id_api_Hash_parents_sl_api_Hash_children_sl_api_Hash_past_dag_row : Nat := 46
abbrev T_dag_node : Nat := 47
abbrev T_sl_p_dag_node : Nat := 48
abbrev T_map_api_Hash_int : Nat := 49
abbrev T_struct_nodes_sl_p_dag_node_at_map_api_Hash_int : Nat := 50
abbrev T_dag_Graph : Nat := 51
abbrev T_func_api_Hash_bool : Nat := 52
abbrev T_func_sl_api_Hash_func_api_Hash_bool_bool : Nat := 53
abbrev T_func_api_Hash_p_dag_node : Nat := 54
abbrev T_func_dag_row_dag_row : Nat := 55
abbrev T_func_int_dag_row : Nat := 56
abbrev T_func_func_int_p_dag_node_bool_sl_api_Hash : Nat := 57
abbrev T_func_int_bool : Nat := 58
abbrev T_func_int_p_dag_node_bool : Nat := 59
abbrev T_func_iter_Seqarrplexus_api_Hash__sl_api_Hash : Nat := 60
abbrev T_func_sl_api_Hash_func_api_Hash_api_Hash_int : Nat := 61
abbrev T_func_sl_api_Hash_func_api_Hash_bool_int : Nat := 62
abbrev T_int_bool : Nat := 63
abbrev T_uint64 : Nat := 64
abbrev T_func_sl_api_Hash_iter_Seqarrplexus_api_Hash__sl_api_Hash : Nat := 65
abbrev T_func_sl_api_Hash_int_int_int_func_api_Hash_api_Hash_int : Nat := 66
abbrev T_func_uint_int : Nat := 67
abbrev T_uint : Nat := 68
abbrev T_func_sl_api_Hash_int_int_func_api_Hash_api_Hash_int : Nat := 69
abbrev T_slices_sortedHint : Nat := 70
abbrev T_int_slices_sortedHint : Nat := 71
abbrev T_func_sl_api_Hash_int_int_func_api_Hash_api_Hash_int_int_slices_sortedHint : Nat := 72
abbrev T_func_sl_api_Hash_int_int_func_api_Hash_api_Hash_int_bool : Nat := 73
abbrev T_func_sl_api_Hash_int_int_int_func_api_Hash_api_Hash_int_int : Nat := 74
abbrev T_func_sl_api_Hash_int_int_int_func_api_Hash_api_Hash_int_int_bool : Nat := 75
abbrev T_func_uint32_int : Nat := 76
abbrev T_uint32 : Nat := 77
abbrev T_func_uint64_int : Nat := 78
abbrev T_slices_xorshift : Nat := 79
abbrev T_func_int_uint : Nat := 80
abbrev T_func_uint64 : Nat := 81
abbrev T_func_sl_api_Hash_int_p_int_func_api_Hash_api_Hash_int_int : Nat := 82
abbrev T_p_int : Nat := 83
abbrev T_func_sl_api_Hash_int_int_int_p_int_func_api_Hash_api_Hash_int_int : Nat := 84
abbrev T_p_slices_xorshift : Nat := 85
abbrev T_int_int : Nat := 86
abbrev T_func_sl_api_Hash_int_int_p_int_func_api_Hash_api_Hash_int_int_int : Nat := 87
abbrev T_func_string : Nat := 88
abbrev T_struct__interface_p_abi_Type_concrete_p_abi_Type_asserted_p_abi_Type_missingMethod_string : Nat := 89
abbrev T_runtime_TypeAssertionError : Nat := 90
abbrev T_arr0_p_runtime_PanicNilError : Nat := 91
abbrev T_struct___arr0_p_runtime_PanicNilError : Nat := 92
abbrev T_runtime_PanicNilError : Nat := 93
abbrev T_func_int : Nat := 94
abbrev T_abi_TFlag : Nat := 95
abbrev T_abi_Kind : Nat := 96
abbrev T_func_unsafe_Pointer_unsafe_Pointer_bool : Nat := 97
abbrev T_p_uint8 : Nat := 98
abbrev T_abi_NameOff : Nat := 99
abbrev T_abi_TypeOff : Nat := 100
abbrev T_struct_Size__uintptr_PtrBytes_uintptr_Hash_uint32_TFlag_abi_TFlag_Align__uint8_FieldAlign__uint8_Kind__abi_Kind_Equal_func_unsafe_Pointer_unsafe_Pointer_bool_GCData_p_uint8_Str_abi_NameOff_PtrToThis_abi_TypeOff : Nat := 101
abbrev T_abi_Type : Nat := 102
abbrev T_unsafe_Pointer : Nat := 103
abbrev main_main.id : Nat := 0
abbrev gosem_cut.id : Nat := 1
abbrev gosem_cut_init.id : Nat := 2
abbrev law10_DagSorts.id : Nat := 3
abbrev law10_known.id : Nat := 4
abbrev dag_Sorted.id : Nat := 5
abbrev dag_Compare.id : Nat := 6
abbrev ref10_Compare.id : Nat := 7
abbrev ref10_Equal.id : Nat := 8
abbrev ref10_Sorted.id : Nat := 9
abbrev dag_New.id : Nat := 10
abbrev dag_Graph_Add.id : Nat := 11
abbrev dag_Graph_Anticone.id : Nat := 12
abbrev dag_Graph_Before.id : Nat := 13
abbrev slices_Compact_of_api_Hash.id : Nat := 14
abbrev slices_SortedFunc_of_api_Hash.id : Nat := 15
abbrev slices_Values_of_api_Hash.id : Nat := 16
abbrev bytes_Compare.id : Nat := 17
abbrev ref10_In.id : Nat := 18
abbrev dag_Graph_there.id : Nat := 19
abbrev dag_Graph_Has.id : Nat := 20
abbrev slices_ContainsFunc_of_api_Hash.id : Nat := 21
abbrev dag_Graph_Add_fn1.id : Nat := 22
abbrev dag_Graph_find.id : Nat := 23
abbrev dag_row_or.id : Nat := 24
abbrev dag_row_with.id : Nat := 25
abbrev dag_Graph_pick.id : Nat := 26
abbrev dag_Graph_Anticone_fn1.id : Nat := 27
abbrev dag_row_has.id : Nat := 28
abbrev slices_Collect_of_api_Hash.id : Nat := 29
abbrev slices_SortFunc_of_api_Hash.id : Nat := 30
abbrev slices_Values_of_api_Hash_fn1.id : Nat := 31
abbrev bytealg_Compare.id : Nat := 32
abbrev slices_IndexFunc_of_api_Hash.id : Nat := 33
abbrev slices_AppendSeq_of_api_Hash.id : Nat := 34
abbrev slices_pdqsortCmpFunc_of_api_Hash.id : Nat := 35
abbrev bits_Len.id : Nat := 36
abbrev slices_insertionSortCmpFunc_of_api_Hash.id : Nat := 37
abbrev slices_heapSortCmpFunc_of_api_Hash.id : Nat := 38
abbrev slices_breakPatternsCmpFunc_of_api_Hash.id : Nat := 39
abbrev slices_choosePivotCmpFunc_of_api_Hash.id : Nat := 40
abbrev slices_reverseRangeCmpFunc_of_api_Hash.id : Nat := 41
abbrev slices_partialInsertionSortCmpFunc_of_api_Hash.id : Nat := 42
abbrev slices_partitionEqualCmpFunc_of_api_Hash.id : Nat := 43
abbrev slices_partitionCmpFunc_of_api_Hash.id : Nat := 44
abbrev bits_Len32.id : Nat := 45
abbrev bits_Len64.id : Nat := 46
abbrev slices_siftDownCmpFunc_of_api_Hash.id : Nat := 47
abbrev slices_nextPowerOfTwo.id : Nat := 48
abbrev slices_xorshift_Next.id : Nat := 49
abbrev slices_medianAdjacentCmpFunc_of_api_Hash.id : Nat := 50
abbrev slices_medianCmpFunc_of_api_Hash.id : Nat := 51
abbrev slices_order2CmpFunc_of_api_Hash.id : Nat := 52
abbrev runtime_boundsError_Error.id : Nat := 53
abbrev runtime_boundsError_RuntimeError.id : Nat := 54
abbrev runtime_errorString_Error.id : Nat := 55
abbrev runtime_errorString_RuntimeError.id : Nat := 56
abbrev runtime_plainError_Error.id : Nat := 57
abbrev runtime_plainError_RuntimeError.id : Nat := 58
abbrev runtime_errorAddressString_Error.id : Nat := 59
abbrev runtime_errorAddressString_RuntimeError.id : Nat := 60
abbrev runtime_TypeAssertionError_Error.id : Nat := 61
abbrev runtime_TypeAssertionError_RuntimeError.id : Nat := 62
abbrev runtime_PanicNilError_Error.id : Nat := 63
abbrev runtime_PanicNilError_RuntimeError.id : Nat := 64
abbrev abi_Type_Align.id : Nat := 65
abbrev runtime_maps_unhashableTypeError_Error.id : Nat := 66
abbrev runtime_maps_unhashableTypeError_RuntimeError.id : Nat := 67
abbrev dag_Graph_Len.id : Nat := 68
abbrev api_Errno_Error.id : Nat := 69
abbrev abi_Kind_String.id : Nat := 70
theorem main_main.at_ : Try.prog.funcs[(0 : Nat)]? = some Try.f0 := Try.func0
theorem gosem_cut.at_ : Try.prog.funcs[(1 : Nat)]? = some Try.f1 := Try.func1
theorem gosem_cut_init.at_ : Try.prog.funcs[(2 : Nat)]? = some Try.f2 := Try.func2
theorem law10_DagSorts.at_ : Try.prog.funcs[(3 : Nat)]? = some Try.f3 := Try.func3
theorem law10_known.at_ : Try.prog.funcs[(4 : Nat)]? = some Try.f4 := Try.func4
theorem dag_Sorted.at_ : Try.prog.funcs[(5 : Nat)]? = some Try.f5 := Try.func5
theorem dag_Compare.at_ : Try.prog.funcs[(6 : Nat)]? = some Try.f6 := Try.func6
theorem ref10_Compare.at_ : Try.prog.funcs[(7 : Nat)]? = some Try.f7 := Try.func7
theorem ref10_Equal.at_ : Try.prog.funcs[(8 : Nat)]? = some Try.f8 := Try.func8
theorem ref10_Sorted.at_ : Try.prog.funcs[(9 : Nat)]? = some Try.f9 := Try.func9
theorem dag_New.at_ : Try.prog.funcs[(10 : Nat)]? = some Try.f10 := Try.func10
theorem dag_Graph_Add.at_ : Try.prog.funcs[(11 : Nat)]? = some Try.f11 := Try.func11
theorem dag_Graph_Anticone.at_ : Try.prog.funcs[(12 : Nat)]? = some Try.f12 := Try.func12
theorem dag_Graph_Before.at_ : Try.prog.funcs[(13 : Nat)]? = some Try.f13 := Try.func13
theorem slices_Compact_of_api_Hash.at_ : Try.prog.funcs[(14 : Nat)]? = some Try.f14 := Try.func14
theorem slices_SortedFunc_of_api_Hash.at_ : Try.prog.funcs[(15 : Nat)]? = some Try.f15 := Try.func15
theorem slices_Values_of_api_Hash.at_ : Try.prog.funcs[(16 : Nat)]? = some Try.f16 := Try.func16
theorem bytes_Compare.at_ : Try.prog.funcs[(17 : Nat)]? = some Try.f17 := Try.func17
theorem ref10_In.at_ : Try.prog.funcs[(18 : Nat)]? = some Try.f18 := Try.func18
theorem dag_Graph_there.at_ : Try.prog.funcs[(19 : Nat)]? = some Try.f19 := Try.func19
theorem dag_Graph_Has.at_ : Try.prog.funcs[(20 : Nat)]? = some Try.f20 := Try.func20
theorem slices_ContainsFunc_of_api_Hash.at_ : Try.prog.funcs[(21 : Nat)]? = some Try.f21 := Try.func21
theorem dag_Graph_Add_fn1.at_ : Try.prog.funcs[(22 : Nat)]? = some Try.f22 := Try.func22
theorem dag_Graph_find.at_ : Try.prog.funcs[(23 : Nat)]? = some Try.f23 := Try.func23
theorem dag_row_or.at_ : Try.prog.funcs[(24 : Nat)]? = some Try.f24 := Try.func24
theorem dag_row_with.at_ : Try.prog.funcs[(25 : Nat)]? = some Try.f25 := Try.func25
theorem dag_Graph_pick.at_ : Try.prog.funcs[(26 : Nat)]? = some Try.f26 := Try.func26
theorem dag_Graph_Anticone_fn1.at_ : Try.prog.funcs[(27 : Nat)]? = some Try.f27 := Try.func27
theorem dag_row_has.at_ : Try.prog.funcs[(28 : Nat)]? = some Try.f28 := Try.func28
theorem slices_Collect_of_api_Hash.at_ : Try.prog.funcs[(29 : Nat)]? = some Try.f29 := Try.func29
theorem slices_SortFunc_of_api_Hash.at_ : Try.prog.funcs[(30 : Nat)]? = some Try.f30 := Try.func30
theorem slices_Values_of_api_Hash_fn1.at_ : Try.prog.funcs[(31 : Nat)]? = some Try.f31 := Try.func31
theorem bytealg_Compare.at_ : Try.prog.funcs[(32 : Nat)]? = some Try.f32 := Try.func32
theorem slices_IndexFunc_of_api_Hash.at_ : Try.prog.funcs[(33 : Nat)]? = some Try.f33 := Try.func33
theorem slices_AppendSeq_of_api_Hash.at_ : Try.prog.funcs[(34 : Nat)]? = some Try.f34 := Try.func34
theorem slices_pdqsortCmpFunc_of_api_Hash.at_ : Try.prog.funcs[(35 : Nat)]? = some Try.f35 := Try.func35
theorem bits_Len.at_ : Try.prog.funcs[(36 : Nat)]? = some Try.f36 := Try.func36
theorem slices_insertionSortCmpFunc_of_api_Hash.at_ : Try.prog.funcs[(37 : Nat)]? = some Try.f37 := Try.func37
theorem slices_heapSortCmpFunc_of_api_Hash.at_ : Try.prog.funcs[(38 : Nat)]? = some Try.f38 := Try.func38
theorem slices_breakPatternsCmpFunc_of_api_Hash.at_ : Try.prog.funcs[(39 : Nat)]? = some Try.f39 := Try.func39
theorem slices_choosePivotCmpFunc_of_api_Hash.at_ : Try.prog.funcs[(40 : Nat)]? = some Try.f40 := Try.func40
theorem slices_reverseRangeCmpFunc_of_api_Hash.at_ : Try.prog.funcs[(41 : Nat)]? = some Try.f41 := Try.func41
theorem slices_partialInsertionSortCmpFunc_of_api_Hash.at_ : Try.prog.funcs[(42 : Nat)]? = some Try.f42 := Try.func42
theorem slices_partitionEqualCmpFunc_of_api_Hash.at_ : Try.prog.funcs[(43 : Nat)]? = some Try.f43 := Try.func43
theorem slices_partitionCmpFunc_of_api_Hash.at_ : Try.prog.funcs[(44 : Nat)]? = some Try.f44 := Try.func44
theorem bits_Len32.at_ : Try.prog.funcs[(45 : Nat)]? = some Try.f45 := Try.func45
theorem bits_Len64.at_ : Try.prog.funcs[(46 : Nat)]? = some Try.f46 := Try.func46
theorem slices_siftDownCmpFunc_of_api_Hash.at_ : Try.prog.funcs[(47 : Nat)]? = some Try.f47 := Try.func47
theorem slices_nextPowerOfTwo.at_ : Try.prog.funcs[(48 : Nat)]? = some Try.f48 := Try.func48
theorem slices_xorshift_Next.at_ : Try.prog.funcs[(49 : Nat)]? = some Try.f49 := Try.func49
theorem slices_medianAdjacentCmpFunc_of_api_Hash.at_ : Try.prog.funcs[(50 : Nat)]? = some Try.f50 := Try.func50
theorem slices_medianCmpFunc_of_api_Hash.at_ : Try.prog.funcs[(51 : Nat)]? = some Try.f51 := Try.func51
theorem slices_order2CmpFunc_of_api_Hash.at_ : Try.prog.funcs[(52 : Nat)]? = some Try.f52 := Try.func52
theorem runtime_boundsError_Error.at_ : Try.prog.funcs[(53 : Nat)]? = some Try.f53 := Try.func53
theorem runtime_boundsError_RuntimeError.at_ : Try.prog.funcs[(54 : Nat)]? = some Try.f54 := Try.func54
theorem runtime_errorString_Error.at_ : Try.prog.funcs[(55 : Nat)]? = some Try.f55 := Try.func55
theorem runtime_errorString_RuntimeError.at_ : Try.prog.funcs[(56 : Nat)]? = some Try.f56 := Try.func56
theorem runtime_plainError_Error.at_ : Try.prog.funcs[(57 : Nat)]? = some Try.f57 := Try.func57
theorem runtime_plainError_RuntimeError.at_ : Try.prog.funcs[(58 : Nat)]? = some Try.f58 := Try.func58
theorem runtime_errorAddressString_Error.at_ : Try.prog.funcs[(59 : Nat)]? = some Try.f59 := Try.func59
theorem runtime_errorAddressString_RuntimeError.at_ : Try.prog.funcs[(60 : Nat)]? = some Try.f60 := Try.func60
theorem runtime_TypeAssertionError_Error.at_ : Try.prog.funcs[(61 : Nat)]? = some Try.f61 := Try.func61
theorem runtime_TypeAssertionError_RuntimeError.at_ : Try.prog.funcs[(62 : Nat)]? = some Try.f62 := Try.func62
theorem runtime_PanicNilError_Error.at_ : Try.prog.funcs[(63 : Nat)]? = some Try.f63 := Try.func63
theorem runtime_PanicNilError_RuntimeError.at_ : Try.prog.funcs[(64 : Nat)]? = some Try.f64 := Try.func64
theorem abi_Type_Align.at_ : Try.prog.funcs[(65 : Nat)]? = some Try.f65 := Try.func65
theorem runtime_maps_unhashableTypeError_Error.at_ : Try.prog.funcs[(66 : Nat)]? = some Try.f66 := Try.func66
theorem runtime_maps_unhashableTypeError_RuntimeError.at_ : Try.prog.funcs[(67 : Nat)]? = some Try.f67 := Try.func67
theorem dag_Graph_Len.at_ : Try.prog.funcs[(68 : Nat)]? = some Try.f68 := Try.func68
theorem api_Errno_Error.at_ : Try.prog.funcs[(69 : Nat)]? = some Try.f69 := Try.func69
theorem abi_Kind_String.at_ : Try.prog.funcs[(70 : Nat)]? = some Try.f70 := Try.func70
theorem ng : NG Try.prog := by
  have h : (Try.prog.funcs.toList.all fun f => !(f.name == "runtime.NumGoroutine")) = true := by kernel_rfl
  intro g fn hf
  rw [List.all_eq_true] at h
  have := h fn (by simpa using Array.mem_of_getElem? hf)
  simpa using this
theorem mix : Try.prog.follows .mixedOrders = true := by kernel_rfl
/-! ### 6: plexus/dag.Compare -/
def dag_Compare.k : List Nat := []
def dag_Compare.W (a1 : Array Value) (b2 : Array Value) (K : Value → World → Prop) (w : World) : Prop :=
  let w_3 : World := w.alloc (.cells a1 23); let w_4 : World := w_3.alloc (.cells b2 23); let w_5 : World := w_4.drew; Ret Try.prog 17 #[.slice (some (if 32 = 0 then (⟨w.heap.size, 0, none⟩ : Addr) else (⟨w.heap.size, 0, none⟩ : Addr).add (0 * 1))) (32 - 0) (32 - 0), .slice (some (if 32 = 0 then (⟨w_3.heap.size, 0, none⟩ : Addr) else (⟨w_3.heap.size, 0, none⟩ : Addr).add (0 * 1))) (32 - 0) (32 - 0)] w_5 fun v6 w_7 => ∃ t78 : Int, v6 = .int .i64 t78 ∧ K (.int .i64 t78) w_7
theorem dag_Compare.s (a1 : Array Value) (b2 : Array Value) (K : Value → World → Prop) (w : World) : (codeW none [] Try.prog Try.f6.ntmps dag_Compare.k (body Try.f6) (resSlots Try.f6) (funQ Try.prog Try.f6 K) (argEnv [.agg a1, .agg b2] 0) w) = dag_Compare.W a1 b2 K w := by kernel_rfl
theorem dag_Compare.of {a1 : Array Value} {b2 : Array Value} {K : Value → World → Prop} {w : World} (h : dag_Compare.W a1 b2 K w) : Ret Try.prog 6 #[.agg a1, .agg b2] w K :=
  ret_of_eq (C := dag_Compare.k) (fn := Try.f6) (c := body Try.f6) ng mix Try.func6 (by kernel_rfl) (by kernel_rfl) (dag_Compare.s a1 b2 K w) h
/-! ### 7: plexus/plexusref10.Compare -/
def ref10_Compare.k : List Nat := []
def ref10_Compare.q1 (K : Value → World → Prop) : Post := (blockQ 0 (uses (sR (sR (body Try.f7))) ++ (resSlots Try.f7)) (thenQ (fun ρ_ w_ => match cutAt ref10_Compare.k (sR (sR (body Try.f7))) with | true => Holds none [] Try.prog 24 (sR (sR (body Try.f7))) (funQ Try.prog Try.f7 K) ρ_ w_ | false => codeW none [] Try.prog 24 ref10_Compare.k (sR (sR (body Try.f7))) (resSlots Try.f7) (funQ Try.prog Try.f7 K) ρ_ w_) (funQ Try.prog Try.f7 K)))
def ref10_Compare.e1 (a5 : Addr) (b6 : Addr) (s : Int × Int) : Env := [(2, .pointer (some a5)), (3, .pointer (some b6)), (4, .int .i64 s.1), (5, .int .i64 s.2)]
def ref10_Compare.u1 : List Nat := [2, 3, 4, 5]
def ref10_Compare.W (a1 : Array Value) (b2 : Array Value) (K : Value → World → Prop) (w : World) : Prop :=
  let w_3 : World := w.alloc (.cells a1 23); let w_4 : World := w_3.alloc (.cells b2 23); Holds none [] Try.prog 24 (.loop (lB (bB (sR (sL (sR (body Try.f7))))))) (ref10_Compare.q1 K) [(2, .pointer (some (⟨w.heap.size, 0, none⟩ : Addr))), (3, .pointer (some (⟨w_3.heap.size, 0, none⟩ : Addr))), (4, .int .i64 0), (5, .int .i64 0)] w_4
theorem ref10_Compare.s (a1 : Array Value) (b2 : Array Value) (K : Value → World → Prop) (w : World) : (codeW none [] Try.prog Try.f7.ntmps ref10_Compare.k (body Try.f7) (resSlots Try.f7) (funQ Try.prog Try.f7 K) (argEnv [.agg a1, .agg b2] 0) w) = ref10_Compare.W a1 b2 K w := by kernel_rfl
theorem ref10_Compare.of {a1 : Array Value} {b2 : Array Value} {K : Value → World → Prop} {w : World} (h : ref10_Compare.W a1 b2 K w) : Ret Try.prog 7 #[.agg a1, .agg b2] w K :=
  ret_of_eq (C := ref10_Compare.k) (fn := Try.f7) (c := body Try.f7) ng mix Try.func7 (by kernel_rfl) (by kernel_rfl) (ref10_Compare.s a1 b2 K w) h
def ref10_Compare.B1 (a5 : Addr) (b6 : Addr) (t47 : Int) (i8 : Int) (Q : Post) (w : World) : Prop :=
  Split (decide (i8 < (32 : Int))) (let w_9 : World := w.drew; (0 ≤ i8 ∧ i8 < (32 : Int)) ∧ ∃ t1210 : Int, w_9.cell? (a5.add (i8.toNat * 1)) = some (.int .u8 t1210) ∧ (0 ≤ i8 ∧ i8 < (32 : Int)) ∧ ∃ t1511 : Int, w_9.cell? (b6.add (i8.toNat * 1)) = some (.int .u8 t1511) ∧ Split (decide (t1210 < t1511)) (Q .ret [(2, .pointer (some a5)), (3, .pointer (some b6)), (4, .int .i64 (-1)), (5, .int .i64 i8)] w_9) (let w_12 : World := w_9.drew; (0 ≤ i8 ∧ i8 < (32 : Int)) ∧ ∃ t1913 : Int, w_12.cell? (a5.add (i8.toNat * 1)) = some (.int .u8 t1913) ∧ (0 ≤ i8 ∧ i8 < (32 : Int)) ∧ ∃ t2214 : Int, w_12.cell? (b6.add (i8.toNat * 1)) = some (.int .u8 t2214) ∧ Split (decide (t1913 > t2214)) (Q .ret [(2, .pointer (some a5)), (3, .pointer (some b6)), (4, .int .i64 1), (5, .int .i64 i8)] w_12) (Q .normal [(2, .pointer (some a5)), (3, .pointer (some b6)), (4, .int .i64 t47), (5, .int .i64 (IntKind.i64.wrap (i8 + (1 : Int))))] w_12))) (Q (.exit 0) [(2, .pointer (some a5)), (3, .pointer (some b6)), (4, .int .i64 t47), (5, .int .i64 i8)] w)
theorem ref10_Compare.b1 (a5 : Addr) (b6 : Addr) (t47 : Int) (i8 : Int) (Q : Post) (w : World) : (codeW none [] Try.prog 24 ref10_Compare.k (lB (bB (sR (sL (sR (body Try.f7)))))) ref10_Compare.u1 Q [(2, .pointer (some a5)), (3, .pointer (some b6)), (4, .int .i64 t47), (5, .int .i64 i8)] w) = ref10_Compare.B1 a5 b6 t47 i8 Q w := by kernel_rfl
theorem ref10_Compare.loop1 {a5 : Addr} {b6 : Addr} (I : Int × Int → World → Prop) (μ : Int × Int → World → Nat) (s : Int × Int) {Q : Post} {w : World} (h0 : I s w)
    (round : ∀ s w, I s w → ref10_Compare.B1 a5 b6 (s.1) (s.2) (roundQ (ref10_Compare.e1 a5 b6) I μ s w Q) w) : Holds none [] Try.prog 24 (.loop (lB (bB (sR (sL (sR (body Try.f7))))))) Q (ref10_Compare.e1 a5 b6 s) w :=
  loop_of_eq ng mix (ref10_Compare.e1 a5 b6) I μ ref10_Compare.k ref10_Compare.u1 s (fun s Q w => ref10_Compare.B1 a5 b6 (s.1) (s.2) Q w) (fun s Q w => ref10_Compare.b1 a5 b6 (s.1) (s.2) Q w) h0 round
def ref10_Compare.X1_0 (a15 : Addr) (b16 : Addr) (t417 : Int) (i18 : Int) (K : Value → World → Prop) (w : World) : Prop :=
  K (.int .i64 0) w
theorem ref10_Compare.x1_0 (a15 : Addr) (b16 : Addr) (t417 : Int) (i18 : Int) (K : Value → World → Prop) (w : World) : (ref10_Compare.q1 K (.exit 0) [(2, .pointer (some a15)), (3, .pointer (some b16)), (4, .int .i64 t417), (5, .int .i64 i18)] w) = ref10_Compare.X1_0 a15 b16 t417 i18 K w := by kernel_rfl
/-! ### 8: plexus/plexusref10.Equal -/
def ref10_Equal.k : List Nat := []
def ref10_Equal.q1 (K : Value → World → Prop) : Post := (blockQ 0 (uses (sR (sR (sR (body Try.f8)))) ++ (resSlots Try.f8)) (thenQ (fun ρ_ w_ => match cutAt ref10_Equal.k (sR (sR (sR (body Try.f8)))) with | true => Holds none [] Try.prog 26 (sR (sR (sR (body Try.f8)))) (funQ Try.prog Try.f8 K) ρ_ w_ | false => codeW none [] Try.prog 26 ref10_Equal.k (sR (sR (sR (body Try.f8)))) (resSlots Try.f8) (funQ Try.prog Try.f8 K) ρ_ w_) (funQ Try.prog Try.f8 K)))
def ref10_Equal.e1 (A_a3 : Option Addr) (n_a3 : Nat) (c_a3 : Nat) (A_b4 : Option Addr) (n_b4 : Nat) (c_b4 : Nat) (s : Bool × Int) : Env := [(0, .slice A_a3 n_a3 c_a3), (1, .slice A_b4 n_b4 c_b4), (4, .bool s.1), (5, .int .i64 s.2)]
def ref10_Equal.u1 : List Nat := [0, 1, 4, 5]
def ref10_Equal.W (A_a1 : Option Addr) (n_a1 : Nat) (c_a1 : Nat) (A_b2 : Option Addr) (n_b2 : Nat) (c_b2 : Nat) (K : Value → World → Prop) (w : World) : Prop :=
  Split ((n_a1 : Int) != (n_b2 : Int)) (K (.bool false) w) (Holds none [] Try.prog 26 (.loop (lB (bB (sR (sL (sR (sR (body Try.f8)))))))) (ref10_Equal.q1 K) [(0, .slice A_a1 n_a1 c_a1), (1, .slice A_b2 n_b2 c_b2), (4, .bool false), (5, .int .i64 0)] w)
theorem ref10_Equal.s (A_a1 : Option Addr) (n_a1 : Nat) (c_a1 : Nat) (A_b2 : Option Addr) (n_b2 : Nat) (c_b2 : Nat) (K : Value → World → Prop) (w : World) : (codeW none [] Try.prog Try.f8.ntmps ref10_Equal.k (body Try.f8) (resSlots Try.f8) (funQ Try.prog Try.f8 K) (argEnv [.slice A_a1 n_a1 c_a1, .slice A_b2 n_b2 c_b2] 0) w) = ref10_Equal.W A_a1 n_a1 c_a1 A_b2 n_b2 c_b2 K w := by kernel_rfl
theorem ref10_Equal.of {A_a1 : Option Addr} {n_a1 : Nat} {c_a1 : Nat} {A_b2 : Option Addr} {n_b2 : Nat} {c_b2 : Nat} {K : Value → World → Prop} {w : World} (h : ref10_Equal.W A_a1 n_a1 c_a1 A_b2 n_b2 c_b2 K w) : Ret Try.prog 8 #[.slice A_a1 n_a1 c_a1, .slice A_b2 n_b2 c_b2] w K :=
  ret_of_eq (C := ref10_Equal.k) (fn := Try.f8) (c := body Try.f8) ng mix Try.func8 (by kernel_rfl) (by kernel_rfl) (ref10_Equal.s A_a1 n_a1 c_a1 A_b2 n_b2 c_b2 K w) h
def ref10_Equal.B1 (A_a3 : Option Addr) (n_a3 : Nat) (c_a3 : Nat) (A_b4 : Option Addr) (n_b4 : Nat) (c_b4 : Nat) (t45 : Bool) (i6 : Int) (Q : Post) (w : World) : Prop :=
  Split (decide (i6 < (n_a3 : Int))) (let w_7 : World := w.drew; (0 ≤ i6 ∧ i6 < (n_a3 : Int)) ∧ Is A_a3 fun a8 : Addr => ∃ t209 : Array Value, (t209.size = 32 ∧ Cells w_7 (a8.add (i6.toNat * 32)) t209) ∧ (0 ≤ i6 ∧ i6 < (n_b4 : Int)) ∧ Is A_b4 fun a10 : Addr => ∃ t2411 : Array Value, (t2411.size = 32 ∧ Cells w_7 (a10.add (i6.toNat * 32)) t2411) ∧ (isInts .u8 32 t209 ∧ isInts .u8 32 t2411) ∧ Split (!(sameInts t209 t2411)) (Q .ret [(0, .slice A_a3 n_a3 c_a3), (1, .slice A_b4 n_b4 c_b4), (4, .bool false), (5, .int .i64 i6)] w_7) (Q .normal [(0, .slice A_a3 n_a3 c_a3), (1, .slice A_b4 n_b4 c_b4), (4, .bool t45), (5, .int .i64 (IntKind.i64.wrap (i6 + (1 : Int))))] w_7)) (Q (.exit 0) [(0, .slice A_a3 n_a3 c_a3), (1, .slice A_b4 n_b4 c_b4), (4, .bool t45), (5, .int .i64 i6)] w)
theorem ref10_Equal.b1 (A_a3 : Option Addr) (n_a3 : Nat) (c_a3 : Nat) (A_b4 : Option Addr) (n_b4 : Nat) (c_b4 : Nat) (t45 : Bool) (i6 : Int) (Q : Post) (w : World) : (codeW none [] Try.prog 26 ref10_Equal.k (lB (bB (sR (sL (sR (sR (body Try.f8))))))) ref10_Equal.u1 Q [(0, .slice A_a3 n_a3 c_a3), (1, .slice A_b4 n_b4 c_b4), (4, .bool t45), (5, .int .i64 i6)] w) = ref10_Equal.B1 A_a3 n_a3 c_a3 A_b4 n_b4 c_b4 t45 i6 Q w := by kernel_rfl
theorem ref10_Equal.loop1 {A_a3 : Option Addr} {n_a3 : Nat} {c_a3 : Nat} {A_b4 : Option Addr} {n_b4 : Nat} {c_b4 : Nat} (I : Bool × Int → World → Prop) (μ : Bool × Int → World → Nat) (s : Bool × Int) {Q : Post} {w : World} (h0 : I s w)
    (round : ∀ s w, I s w → ref10_Equal.B1 A_a3 n_a3 c_a3 A_b4 n_b4 c_b4 (s.1) (s.2) (roundQ (ref10_Equal.e1 A_a3 n_a3 c_a3 A_b4 n_b4 c_b4) I μ s w Q) w) : Holds none [] Try.prog 26 (.loop (lB (bB (sR (sL (sR (sR (body Try.f8)))))))) Q (ref10_Equal.e1 A_a3 n_a3 c_a3 A_b4 n_b4 c_b4 s) w :=
  loop_of_eq ng mix (ref10_Equal.e1 A_a3 n_a3 c_a3 A_b4 n_b4 c_b4) I μ ref10_Equal.k ref10_Equal.u1 s (fun s Q w => ref10_Equal.B1 A_a3 n_a3 c_a3 A_b4 n_b4 c_b4 (s.1) (s.2) Q w) (fun s Q w => ref10_Equal.b1 A_a3 n_a3 c_a3 A_b4 n_b4 c_b4 (s.1) (s.2) Q w) h0 round
def ref10_Equal.X1_0 (A_a12 : Option Addr) (n_a12 : Nat) (c_a12 : Nat) (A_b13 : Option Addr) (n_b13 : Nat) (c_b13 : Nat) (t414 : Bool) (i15 : Int) (K : Value → World → Prop) (w : World) : Prop :=
  K (.bool true) w
theorem ref10_Equal.x1_0 (A_a12 : Option Addr) (n_a12 : Nat) (c_a12 : Nat) (A_b13 : Option Addr) (n_b13 : Nat) (c_b13 : Nat) (t414 : Bool) (i15 : Int) (K : Value → World → Prop) (w : World) : (ref10_Equal.q1 K (.exit 0) [(0, .slice A_a12 n_a12 c_a12), (1, .slice A_b13 n_b13 c_b13), (4, .bool t414), (5, .int .i64 i15)] w) = ref10_Equal.X1_0 A_a12 n_a12 c_a12 A_b13 n_b13 c_b13 t414 i15 K w := by kernel_rfl
/-! ### 9: plexus/plexusref10.Sorted -/
def ref10_Sorted.k : List Nat := []
def ref10_Sorted.q1 (K : Value → World → Prop) : Post := (blockQ 0 (uses (sR (sR (sR (body Try.f9)))) ++ (resSlots Try.f9)) (thenQ (fun ρ_ w_ => match cutAt ref10_Sorted.k (sR (sR (sR (body Try.f9)))) with | true => Holds none [] Try.prog 56 (sR (sR (sR (body Try.f9)))) (funQ Try.prog Try.f9 K) ρ_ w_ | false => codeW none [] Try.prog 56 ref10_Sorted.k (sR (sR (sR (body Try.f9)))) (resSlots Try.f9) (funQ Try.prog Try.f9 K) ρ_ w_) (funQ Try.prog Try.f9 K)))
def ref10_Sorted.e1 (A_l2 : Option Addr) (n_l2 : Nat) (c_l2 : Nat) (A_t23 : Option Addr) (n_t23 : Nat) (c_t23 : Nat) (s : (Option Addr) × Nat × Nat × Int) : Env := [(0, .slice A_l2 n_l2 c_l2), (2, .slice A_t23 n_t23 c_t23), (3, .slice s.1 s.2.1 s.2.2.1), (4, .int .i64 s.2.2.2)]
def ref10_Sorted.u1 : List Nat := [0, 2, 3, 4]
def ref10_Sorted.q2 (Q : Post) : Post := (blockQ 2 (uses (sR (sR (sR (bB (sL (sR (lB (bB (sR (sL (sR (sR (body Try.f9))))))))))))) ++ (uses (sR (sR (lB (bB (sR (sL (sR (sR (body Try.f9))))))))) ++ ref10_Sorted.u1)) (thenQ (fun ρ_ w_ => match cutAt ref10_Sorted.k (sR (sR (sR (bB (sL (sR (lB (bB (sR (sL (sR (sR (body Try.f9))))))))))))) with | true => Holds none [] Try.prog 56 (sR (sR (sR (bB (sL (sR (lB (bB (sR (sL (sR (sR (body Try.f9))))))))))))) (blockQ 1 (uses (sR (sR (lB (bB (sR (sL (sR (sR (body Try.f9))))))))) ++ ref10_Sorted.u1) (thenQ (fun ρ_ w_ => match cutAt ref10_Sorted.k (sR (sR (lB (bB (sR (sL (sR (sR (body Try.f9))))))))) with | true => Holds none [] Try.prog 56 (sR (sR (lB (bB (sR (sL (sR (sR (body Try.f9))))))))) Q ρ_ w_ | false => codeW none [] Try.prog 56 ref10_Sorted.k (sR (sR (lB (bB (sR (sL (sR (sR (body Try.f9))))))))) ref10_Sorted.u1 Q ρ_ w_) Q)) ρ_ w_ | false => codeW none [] Try.prog 56 ref10_Sorted.k (sR (sR (sR (bB (sL (sR (lB (bB (sR (sL (sR (sR (body Try.f9))))))))))))) (uses (sR (sR (lB (bB (sR (sL (sR (sR (body Try.f9))))))))) ++ ref10_Sorted.u1) (blockQ 1 (uses (sR (sR (lB (bB (sR (sL (sR (sR (body Try.f9))))))))) ++ ref10_Sorted.u1) (thenQ (fun ρ_ w_ => match cutAt ref10_Sorted.k (sR (sR (lB (bB (sR (sL (sR (sR (body Try.f9))))))))) with | true => Holds none [] Try.prog 56 (sR (sR (lB (bB (sR (sL (sR (sR (body Try.f9))))))))) Q ρ_ w_ | false => codeW none [] Try.prog 56 ref10_Sorted.k (sR (sR (lB (bB (sR (sL (sR (sR (body Try.f9))))))))) ref10_Sorted.u1 Q ρ_ w_) Q)) ρ_ w_) (blockQ 1 (uses (sR (sR (lB (bB (sR (sL (sR (sR (body Try.f9))))))))) ++ ref10_Sorted.u1) (thenQ (fun ρ_ w_ => match cutAt ref10_Sorted.k (sR (sR (lB (bB (sR (sL (sR (sR (body Try.f9))))))))) with | true => Holds none [] Try.prog 56 (sR (sR (lB (bB (sR (sL (sR (sR (body Try.f9))))))))) Q ρ_ w_ | false => codeW none [] Try.prog 56 ref10_Sorted.k (sR (sR (lB (bB (sR (sL (sR (sR (body Try.f9))))))))) ref10_Sorted.u1 Q ρ_ w_) Q))))
def ref10_Sorted.e2 (A_l15 : Option Addr) (n_l15 : Nat) (c_l15 : Nat) (A_t216 : Option Addr) (n_t216 : Nat) (c_t216 : Nat) (A_out17 : Option Addr) (n_out17 : Nat) (c_out17 : Nat) (i18 : Int) (s : Int) : Env := [(0, .slice A_l15 n_l15 c_l15), (2, .slice A_t216 n_t216 c_t216), (3, .slice A_out17 n_out17 c_out17), (4, .int .i64 i18), (5, .int .i64 s)]
def ref10_Sorted.u2 : List Nat := [0, 2, 3, 4, 5]
def ref10_Sorted.W (A_l1 : Option Addr) (n_l1 : Nat) (c_l1 : Nat) (K : Value → World → Prop) (w : World) : Prop :=
  Holds none [] Try.prog 56 (.loop (lB (bB (sR (sL (sR (sR (body Try.f9)))))))) (ref10_Sorted.q1 K) [(0, .slice A_l1 n_l1 c_l1), (2, .slice none 0 0), (3, .slice none 0 0), (4, .int .i64 0)] w
theorem ref10_Sorted.s (A_l1 : Option Addr) (n_l1 : Nat) (c_l1 : Nat) (K : Value → World → Prop) (w : World) : (codeW none [] Try.prog Try.f9.ntmps ref10_Sorted.k (body Try.f9) (resSlots Try.f9) (funQ Try.prog Try.f9 K) (argEnv [.slice A_l1 n_l1 c_l1] 0) w) = ref10_Sorted.W A_l1 n_l1 c_l1 K w := by kernel_rfl
theorem ref10_Sorted.of {A_l1 : Option Addr} {n_l1 : Nat} {c_l1 : Nat} {K : Value → World → Prop} {w : World} (h : ref10_Sorted.W A_l1 n_l1 c_l1 K w) : Ret Try.prog 9 #[.slice A_l1 n_l1 c_l1] w K :=
  ret_of_eq (C := ref10_Sorted.k) (fn := Try.f9) (c := body Try.f9) ng mix Try.func9 (by kernel_rfl) (by kernel_rfl) (ref10_Sorted.s A_l1 n_l1 c_l1 K w) h
def ref10_Sorted.B1 (A_l2 : Option Addr) (n_l2 : Nat) (c_l2 : Nat) (A_t23 : Option Addr) (n_t23 : Nat) (c_t23 : Nat) (A_out4 : Option Addr) (n_out4 : Nat) (c_out4 : Nat) (i5 : Int) (Q : Post) (w : World) : Prop :=
  Split (decide (i5 < (n_l2 : Int))) ((0 ≤ i5 ∧ i5 < (n_l2 : Int)) ∧ Is A_l2 fun a6 : Addr => ∃ t177 : Array Value, (t177.size = 32 ∧ Cells w (a6.add (i5.toNat * 32)) t177) ∧ Ret Try.prog 18 #[.slice A_out4 n_out4 c_out4, .agg t177] w fun v8 w_9 => ∃ t1810 : Bool, v8 = .bool t1810 ∧ Split t1810 (Q .normal [(0, .slice A_l2 n_l2 c_l2), (2, .slice A_t23 n_t23 c_t23), (3, .slice A_out4 n_out4 c_out4), (4, .int .i64 (IntKind.i64.wrap (i5 + (1 : Int))))] w_9) (Holds none [] Try.prog 56 (.loop (lB (bB (sL (sR (sR (bB (sL (sR (lB (bB (sR (sL (sR (sR (body Try.f9)))))))))))))))) (ref10_Sorted.q2 Q) [(0, .slice A_l2 n_l2 c_l2), (2, .slice A_t23 n_t23 c_t23), (3, .slice A_out4 n_out4 c_out4), (4, .int .i64 i5), (5, .int .i64 (n_out4 : Int))] w_9)) (Q (.exit 0) [(0, .slice A_l2 n_l2 c_l2), (2, .slice A_t23 n_t23 c_t23), (3, .slice A_out4 n_out4 c_out4), (4, .int .i64 i5)] w)
theorem ref10_Sorted.b1 (A_l2 : Option Addr) (n_l2 : Nat) (c_l2 : Nat) (A_t23 : Option Addr) (n_t23 : Nat) (c_t23 : Nat) (A_out4 : Option Addr) (n_out4 : Nat) (c_out4 : Nat) (i5 : Int) (Q : Post) (w : World) : (codeW none [] Try.prog 56 ref10_Sorted.k (lB (bB (sR (sL (sR (sR (body Try.f9))))))) ref10_Sorted.u1 Q [(0, .slice A_l2 n_l2 c_l2), (2, .slice A_t23 n_t23 c_t23), (3, .slice A_out4 n_out4 c_out4), (4, .int .i64 i5)] w) = ref10_Sorted.B1 A_l2 n_l2 c_l2 A_t23 n_t23 c_t23 A_out4 n_out4 c_out4 i5 Q w := by kernel_rfl
theorem ref10_Sorted.loop1 {A_l2 : Option Addr} {n_l2 : Nat} {c_l2 : Nat} {A_t23 : Option Addr} {n_t23 : Nat} {c_t23 : Nat} (I : (Option Addr) × Nat × Nat × Int → World → Prop) (μ : (Option Addr) × Nat × Nat × Int → World → Nat) (s : (Option Addr) × Nat × Nat × Int) {Q : Post} {w : World} (h0 : I s w)
    (round : ∀ s w, I s w → ref10_Sorted.B1 A_l2 n_l2 c_l2 A_t23 n_t23 c_t23 (s.1) (s.2.1) (s.2.2.1) (s.2.2.2) (roundQ (ref10_Sorted.e1 A_l2 n_l2 c_l2 A_t23 n_t23 c_t23) I μ s w Q) w) : Holds none [] Try.prog 56 (.loop (lB (bB (sR (sL (sR (sR (body Try.f9)))))))) Q (ref10_Sorted.e1 A_l2 n_l2 c_l2 A_t23 n_t23 c_t23 s) w :=
  loop_of_eq ng mix (ref10_Sorted.e1 A_l2 n_l2 c_l2 A_t23 n_t23 c_t23) I μ ref10_Sorted.k ref10_Sorted.u1 s (fun s Q w => ref10_Sorted.B1 A_l2 n_l2 c_l2 A_t23 n_t23 c_t23 (s.1) (s.2.1) (s.2.2.1) (s.2.2.2) Q w) (fun s Q w => ref10_Sorted.b1 A_l2 n_l2 c_l2 A_t23 n_t23 c_t23 (s.1) (s.2.1) (s.2.2.1) (s.2.2.2) Q w) h0 round
def ref10_Sorted.X1_0 (A_l11 : Option Addr) (n_l11 : Nat) (c_l11 : Nat) (A_t212 : Option Addr) (n_t212 : Nat) (c_t212 : Nat) (A_out13 : Option Addr) (n_out13 : Nat) (c_out13 : Nat) (i14 : Int) (K : Value → World → Prop) (w : World) : Prop :=
  K (.slice A_out13 n_out13 c_out13) w
theorem ref10_Sorted.x1_0 (A_l11 : Option Addr) (n_l11 : Nat) (c_l11 : Nat) (A_t212 : Option Addr) (n_t212 : Nat) (c_t212 : Nat) (A_out13 : Option Addr) (n_out13 : Nat) (c_out13 : Nat) (i14 : Int) (K : Value → World → Prop) (w : World) : (ref10_Sorted.q1 K (.exit 0) [(0, .slice A_l11 n_l11 c_l11), (2, .slice A_t212 n_t212 c_t212), (3, .slice A_out13 n_out13 c_out13), (4, .int .i64 i14)] w) = ref10_Sorted.X1_0 A_l11 n_l11 c_l11 A_t212 n_t212 c_t212 A_out13 n_out13 c_out13 i14 K w := by kernel_rfl
def ref10_Sorted.B2 (A_l15 : Option Addr) (n_l15 : Nat) (c_l15 : Nat) (A_t216 : Option Addr) (n_t216 : Nat) (c_t216 : Nat) (A_out17 : Option Addr) (n_out17 : Nat) (c_out17 : Nat) (i18 : Int) (at_19 : Int) (Q : Post) (w : World) : Prop :=
  let w_20 : World := w.drew; Split (decide (at_19 > (0 : Int))) ((0 ≤ i18 ∧ i18 < (n_l15 : Int)) ∧ Is A_l15 fun a21 : Addr => ∃ t2722 : Array Value, (t2722.size = 32 ∧ Cells w_20 (a21.add (i18.toNat * 32)) t2722) ∧ (0 ≤ (IntKind.i64.wrap (at_19 - (1 : Int))) ∧ (IntKind.i64.wrap (at_19 - (1 : Int))) < (n_out17 : Int)) ∧ Is A_out17 fun a23 : Addr => ∃ t3224 : Array Value, (t3224.size = 32 ∧ Cells w_20 (a23.add ((IntKind.i64.wrap (at_19 - (1 : Int))).toNat * 32)) t3224) ∧ Ret Try.prog 7 #[.agg t2722, .agg t3224] w_20 fun v25 w_26 => ∃ t3327 : Int, v25 = .int .i64 t3327 ∧ Split (decide (t3327 < (0 : Int))) (Q .normal [(0, .slice A_l15 n_l15 c_l15), (2, .slice A_t216 n_t216 c_t216), (3, .slice A_out17 n_out17 c_out17), (4, .int .i64 i18), (5, .int .i64 (IntKind.i64.wrap (at_19 - (1 : Int))))] w_26) (Q (.exit 2) [(0, .slice A_l15 n_l15 c_l15), (2, .slice A_t216 n_t216 c_t216), (3, .slice A_out17 n_out17 c_out17), (4, .int .i64 i18), (5, .int .i64 at_19)] w_26)) (Q (.exit 2) [(0, .slice A_l15 n_l15 c_l15), (2, .slice A_t216 n_t216 c_t216), (3, .slice A_out17 n_out17 c_out17), (4, .int .i64 i18), (5, .int .i64 at_19)] w_20)
theorem ref10_Sorted.b2 (A_l15 : Option Addr) (n_l15 : Nat) (c_l15 : Nat) (A_t216 : Option Addr) (n_t216 : Nat) (c_t216 : Nat) (A_out17 : Option Addr) (n_out17 : Nat) (c_out17 : Nat) (i18 : Int) (at_19 : Int) (Q : Post) (w : World) : (codeW none [] Try.prog 56 ref10_Sorted.k (lB (bB (sL (sR (sR (bB (sL (sR (lB (bB (sR (sL (sR (sR (body Try.f9))))))))))))))) ref10_Sorted.u2 Q [(0, .slice A_l15 n_l15 c_l15), (2, .slice A_t216 n_t216 c_t216), (3, .slice A_out17 n_out17 c_out17), (4, .int .i64 i18), (5, .int .i64 at_19)] w) = ref10_Sorted.B2 A_l15 n_l15 c_l15 A_t216 n_t216 c_t216 A_out17 n_out17 c_out17 i18 at_19 Q w := by kernel_rfl
theorem ref10_Sorted.loop2 {A_l15 : Option Addr} {n_l15 : Nat} {c_l15 : Nat} {A_t216 : Option Addr} {n_t216 : Nat} {c_t216 : Nat} {A_out17 : Option Addr} {n_out17 : Nat} {c_out17 : Nat} {i18 : Int} (I : Int → World → Prop) (μ : Int → World → Nat) (s : Int) {Q : Post} {w : World} (h0 : I s w)
    (round : ∀ s w, I s w → ref10_Sorted.B2 A_l15 n_l15 c_l15 A_t216 n_t216 c_t216 A_out17 n_out17 c_out17 i18 (s) (roundQ (ref10_Sorted.e2 A_l15 n_l15 c_l15 A_t216 n_t216 c_t216 A_out17 n_out17 c_out17 i18) I μ s w Q) w) : Holds none [] Try.prog 56 (.loop (lB (bB (sL (sR (sR (bB (sL (sR (lB (bB (sR (sL (sR (sR (body Try.f9)))))))))))))))) Q (ref10_Sorted.e2 A_l15 n_l15 c_l15 A_t216 n_t216 c_t216 A_out17 n_out17 c_out17 i18 s) w :=
  loop_of_eq ng mix (ref10_Sorted.e2 A_l15 n_l15 c_l15 A_t216 n_t216 c_t216 A_out17 n_out17 c_out17 i18) I μ ref10_Sorted.k ref10_Sorted.u2 s (fun s Q w => ref10_Sorted.B2 A_l15 n_l15 c_l15 A_t216 n_t216 c_t216 A_out17 n_out17 c_out17 i18 (s) Q w) (fun s Q w => ref10_Sorted.b2 A_l15 n_l15 c_l15 A_t216 n_t216 c_t216 A_out17 n_out17 c_out17 i18 (s) Q w) h0 round
def ref10_Sorted.X2_2 (A_l28 : Option Addr) (n_l28 : Nat) (c_l28 : Nat) (A_t229 : Option Addr) (n_t229 : Nat) (c_t229 : Nat) (A_out30 : Option Addr) (n_out30 : Nat) (c_out30 : Nat) (i31 : Int) (at_32 : Int) (Q : Post) (w : World) : Prop :=
  (0 ≤ at_32 ∧ at_32 ≤ (c_out30 : Int)) ∧ ∃ (A_t4233 : Option Addr) (n_t4233 c_t4233 : Nat) (w_34 : World), (Builtin.append_ #[24, 24] 24 #[.slice none 0 0, .slice (if c_out30 = 0 then A_out30 else A_out30.map (·.add (0 * 32))) (at_32.toNat - 0) (c_out30 - 0)]).run Try.prog w = .ok (.slice A_t4233 n_t4233 c_t4233) w_34 ∧ (0 ≤ i31 ∧ i31 < (n_l28 : Int)) ∧ Is A_l28 fun a35 : Addr => ∃ t4736 : Array Value, (t4736.size = 32 ∧ Cells w_34 (a35.add (i31.toNat * 32)) t4736) ∧ t4736.size = 32 ∧ let w_37 : World := w_34.alloc (.cells (t4736.toList ++ []).toArray 23); ∃ (A_t4938 : Option Addr) (n_t4938 c_t4938 : Nat) (w_39 : World), (Builtin.append_ #[24, 24] 24 #[.slice A_t4233 n_t4233 c_t4233, .slice (some (⟨w_34.heap.size, 0, none⟩ : Addr)) 1 1]).run Try.prog w_37 = .ok (.slice A_t4938 n_t4938 c_t4938) w_39 ∧ (0 ≤ at_32 ∧ at_32 ≤ (n_out30 : Int)) ∧ ∃ (A_t5440 : Option Addr) (n_t5440 c_t5440 : Nat) (w_41 : World), (Builtin.append_ #[24, 24] 24 #[.slice A_t4938 n_t4938 c_t4938, .slice (if c_out30 = at_32.toNat then A_out30 else A_out30.map (·.add (at_32.toNat * 32))) (n_out30 - at_32.toNat) (c_out30 - at_32.toNat)]).run Try.prog w_39 = .ok (.slice A_t5440 n_t5440 c_t5440) w_41 ∧ Q .normal [(0, .slice A_l28 n_l28 c_l28), (2, .slice A_t229 n_t229 c_t229), (3, .slice A_t5440 n_t5440 c_t5440), (4, .int .i64 (IntKind.i64.wrap (i31 + (1 : Int))))] w_41
theorem ref10_Sorted.x2_2 (A_l28 : Option Addr) (n_l28 : Nat) (c_l28 : Nat) (A_t229 : Option Addr) (n_t229 : Nat) (c_t229 : Nat) (A_out30 : Option Addr) (n_out30 : Nat) (c_out30 : Nat) (i31 : Int) (at_32 : Int) (Q : Post) (w : World) : (ref10_Sorted.q2 Q (.exit 2) [(0, .slice A_l28 n_l28 c_l28), (2, .slice A_t229 n_t229 c_t229), (3, .slice A_out30 n_out30 c_out30), (4, .int .i64 i31), (5, .int .i64 at_32)] w) = ref10_Sorted.X2_2 A_l28 n_l28 c_l28 A_t229 n_t229 c_t229 A_out30 n_out30 c_out30 i31 at_32 Q w := by kernel_rfl
/-! ### 14: slices.Compact[[]plexus/api.Hash,plexus/api.Hash] -/
def slices_Compact_of_api_Hash.k : List Nat := []
def slices_Compact_of_api_Hash.q1 (K : Value → World → Prop) : Post := (blockQ 0 (uses (sR (sR (sR (body Try.f14)))) ++ (resSlots Try.f14)) (thenQ (fun ρ_ w_ => match cutAt slices_Compact_of_api_Hash.k (sR (sR (sR (body Try.f14)))) with | true => Holds none [] Try.prog 61 (sR (sR (sR (body Try.f14)))) (funQ Try.prog Try.f14 K) ρ_ w_ | false => codeW none [] Try.prog 61 slices_Compact_of_api_Hash.k (sR (sR (sR (body Try.f14)))) (resSlots Try.f14) (funQ Try.prog Try.f14 K) ρ_ w_) (funQ Try.prog Try.f14 K)))
def slices_Compact_of_api_Hash.e1 (A_s2 : Option Addr) (n_s2 : Nat) (c_s2 : Nat) (s : (Option Addr) × Nat × Nat × Int) : Env := [(0, .slice A_s2 n_s2 c_s2), (2, .slice s.1 s.2.1 s.2.2.1), (3, .int .i64 s.2.2.2)]
def slices_Compact_of_api_Hash.u1 : List Nat := [0, 2, 3]
def slices_Compact_of_api_Hash.q2 (Q : Post) : Post := (blockQ 2 (uses (sR (sR (cT (sR (bB (sL (sR (lB (bB (sR (sL (sR (sR (body Try.f14)))))))))))))) ++ (uses (sR (sR (lB (bB (sR (sL (sR (sR (body Try.f14))))))))) ++ slices_Compact_of_api_Hash.u1)) (thenQ (fun ρ_ w_ => match cutAt slices_Compact_of_api_Hash.k (sR (sR (cT (sR (bB (sL (sR (lB (bB (sR (sL (sR (sR (body Try.f14)))))))))))))) with | true => Holds none [] Try.prog 61 (sR (sR (cT (sR (bB (sL (sR (lB (bB (sR (sL (sR (sR (body Try.f14)))))))))))))) (blockQ 1 (uses (sR (sR (lB (bB (sR (sL (sR (sR (body Try.f14))))))))) ++ slices_Compact_of_api_Hash.u1) (thenQ (fun ρ_ w_ => match cutAt slices_Compact_of_api_Hash.k (sR (sR (lB (bB (sR (sL (sR (sR (body Try.f14))))))))) with | true => Holds none [] Try.prog 61 (sR (sR (lB (bB (sR (sL (sR (sR (body Try.f14))))))))) Q ρ_ w_ | false => codeW none [] Try.prog 61 slices_Compact_of_api_Hash.k (sR (sR (lB (bB (sR (sL (sR (sR (body Try.f14))))))))) slices_Compact_of_api_Hash.u1 Q ρ_ w_) Q)) ρ_ w_ | false => codeW none [] Try.prog 61 slices_Compact_of_api_Hash.k (sR (sR (cT (sR (bB (sL (sR (lB (bB (sR (sL (sR (sR (body Try.f14)))))))))))))) (uses (sR (sR (lB (bB (sR (sL (sR (sR (body Try.f14))))))))) ++ slices_Compact_of_api_Hash.u1) (blockQ 1 (uses (sR (sR (lB (bB (sR (sL (sR (sR (body Try.f14))))))))) ++ slices_Compact_of_api_Hash.u1) (thenQ (fun ρ_ w_ => match cutAt slices_Compact_of_api_Hash.k (sR (sR (lB (bB (sR (sL (sR (sR (body Try.f14))))))))) with | true => Holds none [] Try.prog 61 (sR (sR (lB (bB (sR (sL (sR (sR (body Try.f14))))))))) Q ρ_ w_ | false => codeW none [] Try.prog 61 slices_Compact_of_api_Hash.k (sR (sR (lB (bB (sR (sL (sR (sR (body Try.f14))))))))) slices_Compact_of_api_Hash.u1 Q ρ_ w_) Q)) ρ_ w_) (blockQ 1 (uses (sR (sR (lB (bB (sR (sL (sR (sR (body Try.f14))))))))) ++ slices_Compact_of_api_Hash.u1) (thenQ (fun ρ_ w_ => match cutAt slices_Compact_of_api_Hash.k (sR (sR (lB (bB (sR (sL (sR (sR (body Try.f14))))))))) with | true => Holds none [] Try.prog 61 (sR (sR (lB (bB (sR (sL (sR (sR (body Try.f14))))))))) Q ρ_ w_ | false => codeW none [] Try.prog 61 slices_Compact_of_api_Hash.k (sR (sR (lB (bB (sR (sL (sR (sR (body Try.f14))))))))) slices_Compact_of_api_Hash.u1 Q ρ_ w_) Q))))
def slices_Compact_of_api_Hash.e2 (A_s13 : Option Addr) (n_s13 : Nat) (c_s13 : Nat) (A_t214 : Option Addr) (n_t214 : Nat) (c_t214 : Nat) (A_s216 : Option Addr) (n_s216 : Nat) (c_s216 : Nat) (s : Int × Int) : Env := [(0, .slice A_s13 n_s13 c_s13), (2, .slice A_t214 n_t214 c_t214), (3, .int .i64 s.1), (4, .slice A_s216 n_s216 c_s216), (5, .int .i64 s.2)]
def slices_Compact_of_api_Hash.u2 : List Nat := [0, 2, 3, 4, 5]
def slices_Compact_of_api_Hash.W (A_s1 : Option Addr) (n_s1 : Nat) (c_s1 : Nat) (K : Value → World → Prop) (w : World) : Prop :=
  Split (decide ((n_s1 : Int) < (2 : Int))) (K (.slice A_s1 n_s1 c_s1) w) (Holds none [] Try.prog 61 (.loop (lB (bB (sR (sL (sR (sR (body Try.f14)))))))) (slices_Compact_of_api_Hash.q1 K) [(0, .slice A_s1 n_s1 c_s1), (2, .slice none 0 0), (3, .int .i64 1)] w)
theorem slices_Compact_of_api_Hash.s (A_s1 : Option Addr) (n_s1 : Nat) (c_s1 : Nat) (K : Value → World → Prop) (w : World) : (codeW none [] Try.prog Try.f14.ntmps slices_Compact_of_api_Hash.k (body Try.f14) (resSlots Try.f14) (funQ Try.prog Try.f14 K) (argEnv [.slice A_s1 n_s1 c_s1] 0) w) = slices_Compact_of_api_Hash.W A_s1 n_s1 c_s1 K w := by kernel_rfl
theorem slices_Compact_of_api_Hash.of {A_s1 : Option Addr} {n_s1 : Nat} {c_s1 : Nat} {K : Value → World → Prop} {w : World} (h : slices_Compact_of_api_Hash.W A_s1 n_s1 c_s1 K w) : Ret Try.prog 14 #[.slice A_s1 n_s1 c_s1] w K :=
  ret_of_eq (C := slices_Compact_of_api_Hash.k) (fn := Try.f14) (c := body Try.f14) ng mix Try.func14 (by kernel_rfl) (by kernel_rfl) (slices_Compact_of_api_Hash.s A_s1 n_s1 c_s1 K w) h
def slices_Compact_of_api_Hash.B1 (A_s2 : Option Addr) (n_s2 : Nat) (c_s2 : Nat) (A_t23 : Option Addr) (n_t23 : Nat) (c_t23 : Nat) (k4 : Int) (Q : Post) (w : World) : Prop :=
  Split (decide (k4 < (n_s2 : Int))) (let w_5 : World := w.drew; (0 ≤ k4 ∧ k4 < (n_s2 : Int)) ∧ Is A_s2 fun a6 : Addr => ∃ t197 : Array Value, (t197.size = 32 ∧ Cells w_5 (a6.add (k4.toNat * 32)) t197) ∧ (0 ≤ (IntKind.i64.wrap (k4 - (1 : Int))) ∧ (IntKind.i64.wrap (k4 - (1 : Int))) < (n_s2 : Int)) ∧ Is A_s2 fun a8 : Addr => ∃ t249 : Array Value, (t249.size = 32 ∧ Cells w_5 (a8.add ((IntKind.i64.wrap (k4 - (1 : Int))).toNat * 32)) t249) ∧ (isInts .u8 32 t197 ∧ isInts .u8 32 t249) ∧ Split (sameInts t197 t249) ((0 ≤ k4 ∧ k4 ≤ (n_s2 : Int)) ∧ Holds none [] Try.prog 61 (.loop (lB (bB (sR (sL (sR (cT (sR (bB (sL (sR (lB (bB (sR (sL (sR (sR (body Try.f14)))))))))))))))))) (slices_Compact_of_api_Hash.q2 Q) [(0, .slice A_s2 n_s2 c_s2), (2, .slice A_t23 n_t23 c_t23), (3, .int .i64 k4), (4, .slice (if c_s2 = k4.toNat then A_s2 else A_s2.map (·.add (k4.toNat * 32))) (n_s2 - k4.toNat) (c_s2 - k4.toNat)), (5, .int .i64 1)] w_5) (Q .normal [(0, .slice A_s2 n_s2 c_s2), (2, .slice A_t23 n_t23 c_t23), (3, .int .i64 (IntKind.i64.wrap (k4 + (1 : Int))))] w_5)) (Q (.exit 0) [(0, .slice A_s2 n_s2 c_s2), (2, .slice A_t23 n_t23 c_t23), (3, .int .i64 k4)] w)
theorem slices_Compact_of_api_Hash.b1 (A_s2 : Option Addr) (n_s2 : Nat) (c_s2 : Nat) (A_t23 : Option Addr) (n_t23 : Nat) (c_t23 : Nat) (k4 : Int) (Q : Post) (w : World) : (codeW none [] Try.prog 61 slices_Compact_of_api_Hash.k (lB (bB (sR (sL (sR (sR (body Try.f14))))))) slices_Compact_of_api_Hash.u1 Q [(0, .slice A_s2 n_s2 c_s2), (2, .slice A_t23 n_t23 c_t23), (3, .int .i64 k4)] w) = slices_Compact_of_api_Hash.B1 A_s2 n_s2 c_s2 A_t23 n_t23 c_t23 k4 Q w := by kernel_rfl
theorem slices_Compact_of_api_Hash.loop1 {A_s2 : Option Addr} {n_s2 : Nat} {c_s2 : Nat} (I : (Option Addr) × Nat × Nat × Int → World → Prop) (μ : (Option Addr) × Nat × Nat × Int → World → Nat) (s : (Option Addr) × Nat × Nat × Int) {Q : Post} {w : World} (h0 : I s w)
    (round : ∀ s w, I s w → slices_Compact_of_api_Hash.B1 A_s2 n_s2 c_s2 (s.1) (s.2.1) (s.2.2.1) (s.2.2.2) (roundQ (slices_Compact_of_api_Hash.e1 A_s2 n_s2 c_s2) I μ s w Q) w) : Holds none [] Try.prog 61 (.loop (lB (bB (sR (sL (sR (sR (body Try.f14)))))))) Q (slices_Compact_of_api_Hash.e1 A_s2 n_s2 c_s2 s) w :=
  loop_of_eq ng mix (slices_Compact_of_api_Hash.e1 A_s2 n_s2 c_s2) I μ slices_Compact_of_api_Hash.k slices_Compact_of_api_Hash.u1 s (fun s Q w => slices_Compact_of_api_Hash.B1 A_s2 n_s2 c_s2 (s.1) (s.2.1) (s.2.2.1) (s.2.2.2) Q w) (fun s Q w => slices_Compact_of_api_Hash.b1 A_s2 n_s2 c_s2 (s.1) (s.2.1) (s.2.2.1) (s.2.2.2) Q w) h0 round
def slices_Compact_of_api_Hash.X1_0 (A_s10 : Option Addr) (n_s10 : Nat) (c_s10 : Nat) (A_t211 : Option Addr) (n_t211 : Nat) (c_t211 : Nat) (k12 : Int) (K : Value → World → Prop) (w : World) : Prop :=
  K (.slice A_s10 n_s10 c_s10) w
theorem slices_Compact_of_api_Hash.x1_0 (A_s10 : Option Addr) (n_s10 : Nat) (c_s10 : Nat) (A_t211 : Option Addr) (n_t211 : Nat) (c_t211 : Nat) (k12 : Int) (K : Value → World → Prop) (w : World) : (slices_Compact_of_api_Hash.q1 K (.exit 0) [(0, .slice A_s10 n_s10 c_s10), (2, .slice A_t211 n_t211 c_t211), (3, .int .i64 k12)] w) = slices_Compact_of_api_Hash.X1_0 A_s10 n_s10 c_s10 A_t211 n_t211 c_t211 k12 K w := by kernel_rfl
def slices_Compact_of_api_Hash.B2 (A_s13 : Option Addr) (n_s13 : Nat) (c_s13 : Nat) (A_t214 : Option Addr) (n_t214 : Nat) (c_t214 : Nat) (k15 : Int) (A_s216 : Option Addr) (n_s216 : Nat) (c_s216 : Nat) (k217 : Int) (Q : Post) (w : World) : Prop :=
  Split (decide (k217 < (n_s216 : Int))) (let w_18 : World := w.drew; (0 ≤ k217 ∧ k217 < (n_s216 : Int)) ∧ Is A_s216 fun a19 : Addr => ∃ t3820 : Array Value, (t3820.size = 32 ∧ Cells w_18 (a19.add (k217.toNat * 32)) t3820) ∧ (0 ≤ (IntKind.i64.wrap (k217 - (1 : Int))) ∧ (IntKind.i64.wrap (k217 - (1 : Int))) < (n_s216 : Int)) ∧ Is A_s216 fun a21 : Addr => ∃ t4322 : Array Value, (t4322.size = 32 ∧ Cells w_18 (a21.add ((IntKind.i64.wrap (k217 - (1 : Int))).toNat * 32)) t4322) ∧ (isInts .u8 32 t3820 ∧ isInts .u8 32 t4322) ∧ Split (!(sameInts t3820 t4322)) ((0 ≤ k217 ∧ k217 < (n_s216 : Int)) ∧ Is A_s216 fun a23 : Addr => ∃ t5024 : Array Value, (t5024.size = 32 ∧ Cells w_18 (a23.add (k217.toNat * 32)) t5024) ∧ (0 ≤ k15 ∧ k15 < (n_s13 : Int)) ∧ Is A_s13 fun a25 : Addr => (t5024.size = 32 ∧ (∀ c26 ∈ t5024.toList, c26.oneCell' = true) ∧ ∀ j27, j27 < 32 → Wr w_18 ((a25.add (k15.toNat * 32)).add j27)) ∧ let w_28 : World := setCells w_18 (a25.add (k15.toNat * 32)) t5024.toList 0; Q .normal [(0, .slice A_s13 n_s13 c_s13), (2, .slice A_t214 n_t214 c_t214), (3, .int .i64 (IntKind.i64.wrap (k15 + (1 : Int)))), (4, .slice A_s216 n_s216 c_s216), (5, .int .i64 (IntKind.i64.wrap (k217 + (1 : Int))))] w_28) (Q .normal [(0, .slice A_s13 n_s13 c_s13), (2, .slice A_t214 n_t214 c_t214), (3, .int .i64 k15), (4, .slice A_s216 n_s216 c_s216), (5, .int .i64 (IntKind.i64.wrap (k217 + (1 : Int))))] w_18)) (Q (.exit 2) [(0, .slice A_s13 n_s13 c_s13), (2, .slice A_t214 n_t214 c_t214), (3, .int .i64 k15), (4, .slice A_s216 n_s216 c_s216), (5, .int .i64 k217)] w)
theorem slices_Compact_of_api_Hash.b2 (A_s13 : Option Addr) (n_s13 : Nat) (c_s13 : Nat) (A_t214 : Option Addr) (n_t214 : Nat) (c_t214 : Nat) (k15 : Int) (A_s216 : Option Addr) (n_s216 : Nat) (c_s216 : Nat) (k217 : Int) (Q : Post) (w : World) : (codeW none [] Try.prog 61 slices_Compact_of_api_Hash.k (lB (bB (sR (sL (sR (cT (sR (bB (sL (sR (lB (bB (sR (sL (sR (sR (body Try.f14))))))))))))))))) slices_Compact_of_api_Hash.u2 Q [(0, .slice A_s13 n_s13 c_s13), (2, .slice A_t214 n_t214 c_t214), (3, .int .i64 k15), (4, .slice A_s216 n_s216 c_s216), (5, .int .i64 k217)] w) = slices_Compact_of_api_Hash.B2 A_s13 n_s13 c_s13 A_t214 n_t214 c_t214 k15 A_s216 n_s216 c_s216 k217 Q w := by kernel_rfl
theorem slices_Compact_of_api_Hash.loop2 {A_s13 : Option Addr} {n_s13 : Nat} {c_s13 : Nat} {A_t214 : Option Addr} {n_t214 : Nat} {c_t214 : Nat} {A_s216 : Option Addr} {n_s216 : Nat} {c_s216 : Nat} (I : Int × Int → World → Prop) (μ : Int × Int → World → Nat) (s : Int × Int) {Q : Post} {w : World} (h0 : I s w)
    (round : ∀ s w, I s w → slices_Compact_of_api_Hash.B2 A_s13 n_s13 c_s13 A_t214 n_t214 c_t214 (s.1) A_s216 n_s216 c_s216 (s.2) (roundQ (slices_Compact_of_api_Hash.e2 A_s13 n_s13 c_s13 A_t214 n_t214 c_t214 A_s216 n_s216 c_s216) I μ s w Q) w) : Holds none [] Try.prog 61 (.loop (lB (bB (sR (sL (sR (cT (sR (bB (sL (sR (lB (bB (sR (sL (sR (sR (body Try.f14)))))))))))))))))) Q (slices_Compact_of_api_Hash.e2 A_s13 n_s13 c_s13 A_t214 n_t214 c_t214 A_s216 n_s216 c_s216 s) w :=
  loop_of_eq ng mix (slices_Compact_of_api_Hash.e2 A_s13 n_s13 c_s13 A_t214 n_t214 c_t214 A_s216 n_s216 c_s216) I μ slices_Compact_of_api_Hash.k slices_Compact_of_api_Hash.u2 s (fun s Q w => slices_Compact_of_api_Hash.B2 A_s13 n_s13 c_s13 A_t214 n_t214 c_t214 (s.1) A_s216 n_s216 c_s216 (s.2) Q w) (fun s Q w => slices_Compact_of_api_Hash.b2 A_s13 n_s13 c_s13 A_t214 n_t214 c_t214 (s.1) A_s216 n_s216 c_s216 (s.2) Q w) h0 round
def slices_Compact_of_api_Hash.X2_2 (A_s29 : Option Addr) (n_s29 : Nat) (c_s29 : Nat) (A_t230 : Option Addr) (n_t230 : Nat) (c_t230 : Nat) (k31 : Int) (A_s232 : Option Addr) (n_s232 : Nat) (c_s232 : Nat) (k233 : Int) (Q : Post) (w : World) : Prop :=
  (0 ≤ k31 ∧ k31 ≤ (n_s29 : Int)) ∧ ∃ (v34 : Value) (w_35 : World), (Builtin.clear_ #[24] 0 #[.slice (if c_s29 = k31.toNat then A_s29 else A_s29.map (·.add (k31.toNat * 32))) (n_s29 - k31.toNat) (c_s29 - k31.toNat)]).run Try.prog w = .ok v34 w_35 ∧ (0 ≤ k31 ∧ k31 ≤ (c_s29 : Int)) ∧ Q .ret [(0, .slice A_s29 n_s29 c_s29), (2, .slice (if c_s29 = 0 then A_s29 else A_s29.map (·.add (0 * 32))) (k31.toNat - 0) (c_s29 - 0)), (3, .int .i64 k31)] w_35
theorem slices_Compact_of_api_Hash.x2_2 (A_s29 : Option Addr) (n_s29 : Nat) (c_s29 : Nat) (A_t230 : Option Addr) (n_t230 : Nat) (c_t230 : Nat) (k31 : Int) (A_s232 : Option Addr) (n_s232 : Nat) (c_s232 : Nat) (k233 : Int) (Q : Post) (w : World) : (slices_Compact_of_api_Hash.q2 Q (.exit 2) [(0, .slice A_s29 n_s29 c_s29), (2, .slice A_t230 n_t230 c_t230), (3, .int .i64 k31), (4, .slice A_s232 n_s232 c_s232), (5, .int .i64 k233)] w) = slices_Compact_of_api_Hash.X2_2 A_s29 n_s29 c_s29 A_t230 n_t230 c_t230 k31 A_s232 n_s232 c_s232 k233 Q w := by kernel_rfl
/-! ### 17: bytes.Compare -/
def bytes_Compare.k : List Nat := []
def bytes_Compare.W (A_a1 : Option Addr) (n_a1 : Nat) (c_a1 : Nat) (A_b2 : Option Addr) (n_b2 : Nat) (c_b2 : Nat) (K : Value → World → Prop) (w : World) : Prop :=
  ExtCall Try.prog 32 #[.slice A_a1 n_a1 c_a1, .slice A_b2 n_b2 c_b2] w fun v3 w_4 => ∃ t75 : Int, v3 = .int .i64 t75 ∧ K (.int .i64 t75) w_4
theorem bytes_Compare.s (A_a1 : Option Addr) (n_a1 : Nat) (c_a1 : Nat) (A_b2 : Option Addr) (n_b2 : Nat) (c_b2 : Nat) (K : Value → World → Prop) (w : World) : (codeW none [] Try.prog Try.f17.ntmps bytes_Compare.k (body Try.f17) (resSlots Try.f17) (funQ Try.prog Try.f17 K) (argEnv [.slice A_a1 n_a1 c_a1, .slice A_b2 n_b2 c_b2] 0) w) = bytes_Compare.W A_a1 n_a1 c_a1 A_b2 n_b2 c_b2 K w := by kernel_rfl
theorem bytes_Compare.of {A_a1 : Option Addr} {n_a1 : Nat} {c_a1 : Nat} {A_b2 : Option Addr} {n_b2 : Nat} {c_b2 : Nat} {K : Value → World → Prop} {w : World} (h : bytes_Compare.W A_a1 n_a1 c_a1 A_b2 n_b2 c_b2 K w) : Ret Try.prog 17 #[.slice A_a1 n_a1 c_a1, .slice A_b2 n_b2 c_b2] w K :=
  ret_of_eq (C := bytes_Compare.k) (fn := Try.f17) (c := body Try.f17) ng mix Try.func17 (by kernel_rfl) (by kernel_rfl) (bytes_Compare.s A_a1 n_a1 c_a1 A_b2 n_b2 c_b2 K w) h
/-! ### 18: plexus/plexusref10.In -/
def ref10_In.k : List Nat := []
def ref10_In.q1 (K : Value → World → Prop) : Post := (blockQ 0 (uses (sR (sR (body Try.f18))) ++ (resSlots Try.f18)) (thenQ (fun ρ_ w_ => match cutAt ref10_In.k (sR (sR (body Try.f18))) with | true => Holds none [] Try.prog 18 (sR (sR (body Try.f18))) (funQ Try.prog Try.f18 K) ρ_ w_ | false => codeW none [] Try.prog 18 ref10_In.k (sR (sR (body Try.f18))) (resSlots Try.f18) (funQ Try.prog Try.f18 K) ρ_ w_) (funQ Try.prog Try.f18 K)))
def ref10_In.e1 (A_l4 : Option Addr) (n_l4 : Nat) (c_l4 : Nat) (h5 : Addr) (s : Bool × Int) : Env := [(0, .slice A_l4 n_l4 c_l4), (3, .pointer (some h5)), (4, .bool s.1), (5, .int .i64 s.2)]
def ref10_In.u1 : List Nat := [0, 3, 4, 5]
def ref10_In.W (A_l1 : Option Addr) (n_l1 : Nat) (c_l1 : Nat) (h2 : Array Value) (K : Value → World → Prop) (w : World) : Prop :=
  let w_3 : World := w.alloc (.cells h2 23); Holds none [] Try.prog 18 (.loop (lB (bB (sR (sL (sR (body Try.f18))))))) (ref10_In.q1 K) [(0, .slice A_l1 n_l1 c_l1), (3, .pointer (some (⟨w.heap.size, 0, none⟩ : Addr))), (4, .bool false), (5, .int .i64 0)] w_3
theorem ref10_In.s (A_l1 : Option Addr) (n_l1 : Nat) (c_l1 : Nat) (h2 : Array Value) (K : Value → World → Prop) (w : World) : (codeW none [] Try.prog Try.f18.ntmps ref10_In.k (body Try.f18) (resSlots Try.f18) (funQ Try.prog Try.f18 K) (argEnv [.slice A_l1 n_l1 c_l1, .agg h2] 0) w) = ref10_In.W A_l1 n_l1 c_l1 h2 K w := by kernel_rfl
theorem ref10_In.of {A_l1 : Option Addr} {n_l1 : Nat} {c_l1 : Nat} {h2 : Array Value} {K : Value → World → Prop} {w : World} (h : ref10_In.W A_l1 n_l1 c_l1 h2 K w) : Ret Try.prog 18 #[.slice A_l1 n_l1 c_l1, .agg h2] w K :=
  ret_of_eq (C := ref10_In.k) (fn := Try.f18) (c := body Try.f18) ng mix Try.func18 (by kernel_rfl) (by kernel_rfl) (ref10_In.s A_l1 n_l1 c_l1 h2 K w) h
def ref10_In.B1 (A_l4 : Option Addr) (n_l4 : Nat) (c_l4 : Nat) (h5 : Addr) (t46 : Bool) (i7 : Int) (Q : Post) (w : World) : Prop :=
  Split (decide (i7 < (n_l4 : Int))) (let w_8 : World := w.drew; (0 ≤ i7 ∧ i7 < (n_l4 : Int)) ∧ Is A_l4 fun a9 : Addr => ∃ t1510 : Array Value, (t1510.size = 32 ∧ Cells w_8 (a9.add (i7.toNat * 32)) t1510) ∧ ∃ t1611 : Array Value, (t1611.size = 32 ∧ Cells w_8 h5 t1611) ∧ (isInts .u8 32 t1510 ∧ isInts .u8 32 t1611) ∧ Split (sameInts t1510 t1611) (Q .ret [(0, .slice A_l4 n_l4 c_l4), (3, .pointer (some h5)), (4, .bool true), (5, .int .i64 i7)] w_8) (Q .normal [(0, .slice A_l4 n_l4 c_l4), (3, .pointer (some h5)), (4, .bool t46), (5, .int .i64 (IntKind.i64.wrap (i7 + (1 : Int))))] w_8)) (Q (.exit 0) [(0, .slice A_l4 n_l4 c_l4), (3, .pointer (some h5)), (4, .bool t46), (5, .int .i64 i7)] w)
theorem ref10_In.b1 (A_l4 : Option Addr) (n_l4 : Nat) (c_l4 : Nat) (h5 : Addr) (t46 : Bool) (i7 : Int) (Q : Post) (w : World) : (codeW none [] Try.prog 18 ref10_In.k (lB (bB (sR (sL (sR (body Try.f18)))))) ref10_In.u1 Q [(0, .slice A_l4 n_l4 c_l4), (3, .pointer (some h5)), (4, .bool t46), (5, .int .i64 i7)] w) = ref10_In.B1 A_l4 n_l4 c_l4 h5 t46 i7 Q w := by kernel_rfl
theorem ref10_In.loop1 {A_l4 : Option Addr} {n_l4 : Nat} {c_l4 : Nat} {h5 : Addr} (I : Bool × Int → World → Prop) (μ : Bool × Int → World → Nat) (s : Bool × Int) {Q : Post} {w : World} (h0 : I s w)
    (round : ∀ s w, I s w → ref10_In.B1 A_l4 n_l4 c_l4 h5 (s.1) (s.2) (roundQ (ref10_In.e1 A_l4 n_l4 c_l4 h5) I μ s w Q) w) : Holds none [] Try.prog 18 (.loop (lB (bB (sR (sL (sR (body Try.f18))))))) Q (ref10_In.e1 A_l4 n_l4 c_l4 h5 s) w :=
  loop_of_eq ng mix (ref10_In.e1 A_l4 n_l4 c_l4 h5) I μ ref10_In.k ref10_In.u1 s (fun s Q w => ref10_In.B1 A_l4 n_l4 c_l4 h5 (s.1) (s.2) Q w) (fun s Q w => ref10_In.b1 A_l4 n_l4 c_l4 h5 (s.1) (s.2) Q w) h0 round
def ref10_In.X1_0 (A_l12 : Option Addr) (n_l12 : Nat) (c_l12 : Nat) (h13 : Addr) (t414 : Bool) (i15 : Int) (K : Value → World → Prop) (w : World) : Prop :=
  K (.bool false) w
theorem ref10_In.x1_0 (A_l12 : Option Addr) (n_l12 : Nat) (c_l12 : Nat) (h13 : Addr) (t414 : Bool) (i15 : Int) (K : Value → World → Prop) (w : World) : (ref10_In.q1 K (.exit 0) [(0, .slice A_l12 n_l12 c_l12), (3, .pointer (some h13)), (4, .bool t414), (5, .int .i64 i15)] w) = ref10_In.X1_0 A_l12 n_l12 c_l12 h13 t414 i15 K w := by kernel_rfl
/-! ### 19: (*plexus/dag.Graph).there -/
def dag_Graph_there.k : List Nat := []
def dag_Graph_there.W (g1 : Option Addr) (K : Value → World → Prop) (w : World) : Prop :=
  Split (!(g1).isNone) (Is g1 fun a2 : Addr => ∃ t93 : Option Nat, w.cell? (a2.add 1) = some (.map t93) ∧ K (.bool (!(t93).isNone)) w) (K (.bool false) w)
theorem dag_Graph_there.s (g1 : Option Addr) (K : Value → World → Prop) (w : World) : (codeW none [] Try.prog Try.f19.ntmps dag_Graph_there.k (body Try.f19) (resSlots Try.f19) (funQ Try.prog Try.f19 K) (argEnv [.pointer g1] 0) w) = dag_Graph_there.W g1 K w := by kernel_rfl
theorem dag_Graph_there.of {g1 : Option Addr} {K : Value → World → Prop} {w : World} (h : dag_Graph_there.W g1 K w) : Ret Try.prog 19 #[.pointer g1] w K :=
  ret_of_eq (C := dag_Graph_there.k) (fn := Try.f19) (c := body Try.f19) ng mix Try.func19 (by kernel_rfl) (by kernel_rfl) (dag_Graph_there.s g1 K w) h
/-! ### 20: (*plexus/dag.Graph).Has -/
def dag_Graph_Has.k : List Nat := []
def dag_Graph_Has.W (g1 : Option Addr) (id2 : Array Value) (K : Value → World → Prop) (w : World) : Prop :=
  let w_3 : World := w.alloc (.cells id2 23); ∃ t64 : Array Value, (t64.size = 32 ∧ Cells w_3 (⟨w.heap.size, 0, none⟩ : Addr) t64) ∧ Ret Try.prog 23 #[.pointer g1, .agg t64] w_3 fun v5 w_6 => ∃ t77 : Option Addr, v5 = .pointer t77 ∧ K (.bool (!(t77).isNone)) w_6
theorem dag_Graph_Has.s (g1 : Option Addr) (id2 : Array Value) (K : Value → World → Prop) (w : World) : (codeW none [] Try.prog Try.f20.ntmps dag_Graph_Has.k (body Try.f20) (resSlots Try.f20) (funQ Try.prog Try.f20 K) (argEnv [.pointer g1, .agg id2] 0) w) = dag_Graph_Has.W g1 id2 K w := by kernel_rfl
theorem dag_Graph_Has.of {g1 : Option Addr} {id2 : Array Value} {K : Value → World → Prop} {w : World} (h : dag_Graph_Has.W g1 id2 K w) : Ret Try.prog 20 #[.pointer g1, .agg id2] w K :=
  ret_of_eq (C := dag_Graph_Has.k) (fn := Try.f20) (c := body Try.f20) ng mix Try.func20 (by kernel_rfl) (by kernel_rfl) (dag_Graph_Has.s g1 id2 K w) h
/-! ### 22: (*plexus/dag.Graph).Add$1 -/
def dag_Graph_Add_fn1.k : List Nat := []
def dag_Graph_Add_fn1.W (p1 : Array Value) (cap2 : Addr) (K : Value → World → Prop) (w : World) : Prop :=
  let w_3 : World := w.alloc (.cells p1 23); ∃ t44 : Option Addr, w_3.cell? cap2 = some (.pointer t44) ∧ ∃ t55 : Array Value, (t55.size = 32 ∧ Cells w_3 (⟨w.heap.size, 0, none⟩ : Addr) t55) ∧ Ret Try.prog 20 #[.pointer t44, .agg t55] w_3 fun v6 w_7 => ∃ t68 : Bool, v6 = .bool t68 ∧ K (.bool (!t68)) w_7
theorem dag_Graph_Add_fn1.s (p1 : Array Value) (cap2 : Addr) (K : Value → World → Prop) (w : World) : (codeW none [] Try.prog Try.f22.ntmps dag_Graph_Add_fn1.k (body Try.f22) (resSlots Try.f22) (funQ Try.prog Try.f22 K) (argEnv [.agg p1, .pointer (some cap2)] 0) w) = dag_Graph_Add_fn1.W p1 cap2 K w := by kernel_rfl
theorem dag_Graph_Add_fn1.of {p1 : Array Value} {cap2 : Addr} {K : Value → World → Prop} {w : World} (h : dag_Graph_Add_fn1.W p1 cap2 K w) : Ret Try.prog 22 #[.agg p1, .pointer (some cap2)] w K :=
  ret_of_eq (C := dag_Graph_Add_fn1.k) (fn := Try.f22) (c := body Try.f22) ng mix Try.func22 (by kernel_rfl) (by kernel_rfl) (dag_Graph_Add_fn1.s p1 cap2 K w) h
/-! ### 23: (*plexus/dag.Graph).find -/
def dag_Graph_find.k : List Nat := []
def dag_Graph_find.W (g1 : Option Addr) (id2 : Array Value) (K : Value → World → Prop) (w : World) : Prop :=
  let w_3 : World := w.alloc (.cells id2 23); Ret Try.prog 19 #[.pointer g1] w_3 fun v4 w_5 => ∃ t86 : Bool, v4 = .bool t86 ∧ Split t86 (let w_7 : World := w_5.drew; Is g1 fun a8 : Addr => ∃ t139 : Option Nat, w_7.cell? (a8.add 1) = some (.map t139) ∧ ∃ t1410 : Array Value, (t1410.size = 32 ∧ Cells w_7 (⟨w.heap.size, 0, none⟩ : Addr) t1410) ∧ ∃ t1511 : Int, ∃ b12 : Bool, (Instr.lookup 49 (.map t139) (.agg t1410) true).run Try.prog w_7 = .ok (.tuple #[.int .i64 t1511, .bool b12]) w_7 ∧ Split b12 (Is g1 fun a13 : Addr => ∃ A_t2214 : Option Addr, ∃ n_t2214 : Nat, ∃ c_t2214 : Nat, w_7.cell? (a13.add 0) = some (.slice A_t2214 n_t2214 c_t2214) ∧ (0 ≤ t1511 ∧ t1511 < (n_t2214 : Int)) ∧ Is A_t2214 fun a15 : Addr => ∃ t2516 : Option Addr, w_7.cell? (a15.add (t1511.toNat * 1)) = some (.pointer t2516) ∧ K (.pointer t2516) w_7) (K (.pointer none) w_7)) (K (.pointer none) w_5)
theorem dag_Graph_find.s (g1 : Option Addr) (id2 : Array Value) (K : Value → World → Prop) (w : World) : (codeW none [] Try.prog Try.f23.ntmps dag_Graph_find.k (body Try.f23) (resSlots Try.f23) (funQ Try.prog Try.f23 K) (argEnv [.pointer g1, .agg id2] 0) w) = dag_Graph_find.W g1 id2 K w := by kernel_rfl
theorem dag_Graph_find.of {g1 : Option Addr} {id2 : Array Value} {K : Value → World → Prop} {w : World} (h : dag_Graph_find.W g1 id2 K w) : Ret Try.prog 23 #[.pointer g1, .agg id2] w K :=
  ret_of_eq (C := dag_Graph_find.k) (fn := Try.f23) (c := body Try.f23) ng mix Try.func23 (by kernel_rfl) (by kernel_rfl) (dag_Graph_find.s g1 id2 K w) h
/-! ### 24: (plexus/dag.row).or -/
def dag_row_or.k : List Nat := []
def dag_row_or.q1 (K : Value → World → Prop) : Post := (blockQ 0 (uses (sR (sR (body Try.f24))) ++ (resSlots Try.f24)) (thenQ (fun ρ_ w_ => match cutAt dag_row_or.k (sR (sR (body Try.f24))) with | true => Holds none [] Try.prog 30 (sR (sR (body Try.f24))) (funQ Try.prog Try.f24 K) ρ_ w_ | false => codeW none [] Try.prog 30 dag_row_or.k (sR (sR (body Try.f24))) (resSlots Try.f24) (funQ Try.prog Try.f24 K) ρ_ w_) (funQ Try.prog Try.f24 K)))
def dag_row_or.e1 (A_t44 : Option Addr) (n_t44 : Nat) (c_t44 : Nat) (A_t75 : Option Addr) (n_t75 : Nat) (c_t75 : Nat) (t86 : Int) (s : (Option Addr) × Nat × Nat × Int) : Env := [(0, .slice s.1 s.2.1 s.2.2.1), (4, .slice A_t44 n_t44 c_t44), (7, .slice A_t75 n_t75 c_t75), (8, .int .i64 t86), (9, .int .i64 s.2.2.2)]
def dag_row_or.u1 : List Nat := [0, 4, 7, 8, 9]
def dag_row_or.W (A_r1 : Option Addr) (n_r1 : Nat) (c_r1 : Nat) (A_o2 : Option Addr) (n_o2 : Nat) (c_o2 : Nat) (K : Value → World → Prop) (w : World) : Prop :=
  Holds none [] Try.prog 30 (.loop (lB (bB (sR (sL (sR (body Try.f24))))))) (dag_row_or.q1 K) [(0, .slice A_r1 n_r1 c_r1), (4, .slice none 0 0), (7, .slice A_o2 n_o2 c_o2), (8, .int .i64 (n_o2 : Int)), (9, .int .i64 0)] w
theorem dag_row_or.s (A_r1 : Option Addr) (n_r1 : Nat) (c_r1 : Nat) (A_o2 : Option Addr) (n_o2 : Nat) (c_o2 : Nat) (K : Value → World → Prop) (w : World) : (codeW none [] Try.prog Try.f24.ntmps dag_row_or.k (body Try.f24) (resSlots Try.f24) (funQ Try.prog Try.f24 K) (argEnv [.slice A_r1 n_r1 c_r1, .slice A_o2 n_o2 c_o2] 0) w) = dag_row_or.W A_r1 n_r1 c_r1 A_o2 n_o2 c_o2 K w := by kernel_rfl
theorem dag_row_or.of {A_r1 : Option Addr} {n_r1 : Nat} {c_r1 : Nat} {A_o2 : Option Addr} {n_o2 : Nat} {c_o2 : Nat} {K : Value → World → Prop} {w : World} (h : dag_row_or.W A_r1 n_r1 c_r1 A_o2 n_o2 c_o2 K w) : Ret Try.prog 24 #[.slice A_r1 n_r1 c_r1, .slice A_o2 n_o2 c_o2] w K :=
  ret_of_eq (C := dag_row_or.k) (fn := Try.f24) (c := body Try.f24) ng mix Try.func24 (by kernel_rfl) (by kernel_rfl) (dag_row_or.s A_r1 n_r1 c_r1 A_o2 n_o2 c_o2 K w) h
def dag_row_or.B1 (A_r3 : Option Addr) (n_r3 : Nat) (c_r3 : Nat) (A_t44 : Option Addr) (n_t44 : Nat) (c_t44 : Nat) (A_t75 : Option Addr) (n_t75 : Nat) (c_t75 : Nat) (t86 : Int) (t97 : Int) (Q : Post) (w : World) : Prop :=
  Split (decide (t97 < t86)) ((0 ≤ t97 ∧ t97 < (n_t75 : Int)) ∧ Is A_t75 fun a8 : Addr => ∃ t139 : Int, w.cell? (a8.add (t97.toNat * 1)) = some (.int .u64 t139) ∧ Split (t97 == (n_r3 : Int)) (let w_10 : World := w.alloc (.cells #[.int .u64 0] 64); ∃ (A_t2011 : Option Addr) (n_t2011 c_t2011 : Nat) (w_12 : World), (Builtin.append_ #[45, 45] 45 #[.slice A_r3 n_r3 c_r3, .slice (some (⟨w.heap.size, 0, none⟩ : Addr)) 1 1]).run Try.prog w_10 = .ok (.slice A_t2011 n_t2011 c_t2011) w_12 ∧ (0 ≤ t97 ∧ t97 < (n_t2011 : Int)) ∧ Is A_t2011 fun a13 : Addr => ∃ t2414 : Int, w_12.cell? (a13.add (t97.toNat * 1)) = some (.int .u64 t2414) ∧ (0 ≤ t97 ∧ t97 < (n_t2011 : Int)) ∧ Is A_t2011 fun a15 : Addr => Wr w_12 (a15.add (t97.toNat * 1)) ∧ let w_16 : World := w_12.setCell (a15.add (t97.toNat * 1)) (.int .u64 (IntKind.u64.wrap ((BitVec.ofInt 64 t2414 ||| BitVec.ofInt 64 t139).toNat))); Q .normal [(0, .slice A_t2011 n_t2011 c_t2011), (4, .slice A_t44 n_t44 c_t44), (7, .slice A_t75 n_t75 c_t75), (8, .int .i64 t86), (9, .int .i64 (IntKind.i64.wrap (t97 + (1 : Int))))] w_16) ((0 ≤ t97 ∧ t97 < (n_r3 : Int)) ∧ Is A_r3 fun a17 : Addr => ∃ t2418 : Int, w.cell? (a17.add (t97.toNat * 1)) = some (.int .u64 t2418) ∧ (0 ≤ t97 ∧ t97 < (n_r3 : Int)) ∧ Is A_r3 fun a19 : Addr => Wr w (a19.add (t97.toNat * 1)) ∧ let w_20 : World := w.setCell (a19.add (t97.toNat * 1)) (.int .u64 (IntKind.u64.wrap ((BitVec.ofInt 64 t2418 ||| BitVec.ofInt 64 t139).toNat))); Q .normal [(0, .slice A_r3 n_r3 c_r3), (4, .slice A_t44 n_t44 c_t44), (7, .slice A_t75 n_t75 c_t75), (8, .int .i64 t86), (9, .int .i64 (IntKind.i64.wrap (t97 + (1 : Int))))] w_20)) (Q (.exit 0) [(0, .slice A_r3 n_r3 c_r3), (4, .slice A_t44 n_t44 c_t44), (7, .slice A_t75 n_t75 c_t75), (8, .int .i64 t86), (9, .int .i64 t97)] w)
theorem dag_row_or.b1 (A_r3 : Option Addr) (n_r3 : Nat) (c_r3 : Nat) (A_t44 : Option Addr) (n_t44 : Nat) (c_t44 : Nat) (A_t75 : Option Addr) (n_t75 : Nat) (c_t75 : Nat) (t86 : Int) (t97 : Int) (Q : Post) (w : World) : (codeW none [] Try.prog 30 dag_row_or.k (lB (bB (sR (sL (sR (body Try.f24)))))) dag_row_or.u1 Q [(0, .slice A_r3 n_r3 c_r3), (4, .slice A_t44 n_t44 c_t44), (7, .slice A_t75 n_t75 c_t75), (8, .int .i64 t86), (9, .int .i64 t97)] w) = dag_row_or.B1 A_r3 n_r3 c_r3 A_t44 n_t44 c_t44 A_t75 n_t75 c_t75 t86 t97 Q w := by kernel_rfl
theorem dag_row_or.loop1 {A_t44 : Option Addr} {n_t44 : Nat} {c_t44 : Nat} {A_t75 : Option Addr} {n_t75 : Nat} {c_t75 : Nat} {t86 : Int} (I : (Option Addr) × Nat × Nat × Int → World → Prop) (μ : (Option Addr) × Nat × Nat × Int → World → Nat) (s : (Option Addr) × Nat × Nat × Int) {Q : Post} {w : World} (h0 : I s w)
    (round : ∀ s w, I s w → dag_row_or.B1 (s.1) (s.2.1) (s.2.2.1) A_t44 n_t44 c_t44 A_t75 n_t75 c_t75 t86 (s.2.2.2) (roundQ (dag_row_or.e1 A_t44 n_t44 c_t44 A_t75 n_t75 c_t75 t86) I μ s w Q) w) : Holds none [] Try.prog 30 (.loop (lB (bB (sR (sL (sR (body Try.f24))))))) Q (dag_row_or.e1 A_t44 n_t44 c_t44 A_t75 n_t75 c_t75 t86 s) w :=
  loop_of_eq ng mix (dag_row_or.e1 A_t44 n_t44 c_t44 A_t75 n_t75 c_t75 t86) I μ dag_row_or.k dag_row_or.u1 s (fun s Q w => dag_row_or.B1 (s.1) (s.2.1) (s.2.2.1) A_t44 n_t44 c_t44 A_t75 n_t75 c_t75 t86 (s.2.2.2) Q w) (fun s Q w => dag_row_or.b1 (s.1) (s.2.1) (s.2.2.1) A_t44 n_t44 c_t44 A_t75 n_t75 c_t75 t86 (s.2.2.2) Q w) h0 round
def dag_row_or.X1_0 (A_r21 : Option Addr) (n_r21 : Nat) (c_r21 : Nat) (A_t422 : Option Addr) (n_t422 : Nat) (c_t422 : Nat) (A_t723 : Option Addr) (n_t723 : Nat) (c_t723 : Nat) (t824 : Int) (t925 : Int) (K : Value → World → Prop) (w : World) : Prop :=
  K (.slice A_r21 n_r21 c_r21) w
theorem dag_row_or.x1_0 (A_r21 : Option Addr) (n_r21 : Nat) (c_r21 : Nat) (A_t422 : Option Addr) (n_t422 : Nat) (c_t422 : Nat) (A_t723 : Option Addr) (n_t723 : Nat) (c_t723 : Nat) (t824 : Int) (t925 : Int) (K : Value → World → Prop) (w : World) : (dag_row_or.q1 K (.exit 0) [(0, .slice A_r21 n_r21 c_r21), (4, .slice A_t422 n_t422 c_t422), (7, .slice A_t723 n_t723 c_t723), (8, .int .i64 t824), (9, .int .i64 t925)] w) = dag_row_or.X1_0 A_r21 n_r21 c_r21 A_t422 n_t422 c_t422 A_t723 n_t723 c_t723 t824 t925 K w := by kernel_rfl
/-! ### 25: (plexus/dag.row).with -/
def dag_row_with.k : List Nat := []
def dag_row_with.q1 (K : Value → World → Prop) : Post := (blockQ 0 (uses (sR (sR (body Try.f25))) ++ (resSlots Try.f25)) (thenQ (fun ρ_ w_ => match cutAt dag_row_with.k (sR (sR (body Try.f25))) with | true => Holds none [] Try.prog 24 (sR (sR (body Try.f25))) (funQ Try.prog Try.f25 K) ρ_ w_ | false => codeW none [] Try.prog 24 dag_row_with.k (sR (sR (body Try.f25))) (resSlots Try.f25) (funQ Try.prog Try.f25 K) ρ_ w_) (funQ Try.prog Try.f25 K)))
def dag_row_with.e1 (n4 : Int) (A_t45 : Option Addr) (n_t45 : Nat) (c_t45 : Nat) (s : (Option Addr) × Nat × Nat) : Env := [(0, .slice s.1 s.2.1 s.2.2), (1, .int .i64 n4), (4, .slice A_t45 n_t45 c_t45)]
def dag_row_with.u1 : List Nat := [0, 1, 4]
def dag_row_with.W (A_r1 : Option Addr) (n_r1 : Nat) (c_r1 : Nat) (n2 : Int) (K : Value → World → Prop) (w : World) : Prop :=
  Holds none [] Try.prog 24 (.loop (lB (bB (sL (sR (body Try.f25)))))) (dag_row_with.q1 K) [(0, .slice A_r1 n_r1 c_r1), (1, .int .i64 n2), (4, .slice none 0 0)] w
theorem dag_row_with.s (A_r1 : Option Addr) (n_r1 : Nat) (c_r1 : Nat) (n2 : Int) (K : Value → World → Prop) (w : World) : (codeW none [] Try.prog Try.f25.ntmps dag_row_with.k (body Try.f25) (resSlots Try.f25) (funQ Try.prog Try.f25 K) (argEnv [.slice A_r1 n_r1 c_r1, .int .i64 n2] 0) w) = dag_row_with.W A_r1 n_r1 c_r1 n2 K w := by kernel_rfl
theorem dag_row_with.of {A_r1 : Option Addr} {n_r1 : Nat} {c_r1 : Nat} {n2 : Int} {K : Value → World → Prop} {w : World} (h : dag_row_with.W A_r1 n_r1 c_r1 n2 K w) : Ret Try.prog 25 #[.slice A_r1 n_r1 c_r1, .int .i64 n2] w K :=
  ret_of_eq (C := dag_row_with.k) (fn := Try.f25) (c := body Try.f25) ng mix Try.func25 (by kernel_rfl) (by kernel_rfl) (dag_row_with.s A_r1 n_r1 c_r1 n2 K w) h
def dag_row_with.B1 (A_r3 : Option Addr) (n_r3 : Nat) (c_r3 : Nat) (n4 : Int) (A_t45 : Option Addr) (n_t45 : Nat) (c_t45 : Nat) (Q : Post) (w : World) : Prop :=
  (64 : Int) ≠ 0 ∧ Split (decide ((n_r3 : Int) ≤ (IntKind.i64.wrap (n4.tdiv (64 : Int))))) (let w_6 : World := w.alloc (.cells #[.int .u64 0] 64); ∃ (A_t127 : Option Addr) (n_t127 c_t127 : Nat) (w_8 : World), (Builtin.append_ #[45, 45] 45 #[.slice A_r3 n_r3 c_r3, .slice (some (⟨w.heap.size, 0, none⟩ : Addr)) 1 1]).run Try.prog w_6 = .ok (.slice A_t127 n_t127 c_t127) w_8 ∧ Q .normal [(0, .slice A_t127 n_t127 c_t127), (1, .int .i64 n4), (4, .slice A_t45 n_t45 c_t45)] w_8) (Q (.exit 0) [(0, .slice A_r3 n_r3 c_r3), (1, .int .i64 n4), (4, .slice A_t45 n_t45 c_t45)] w)
theorem dag_row_with.b1 (A_r3 : Option Addr) (n_r3 : Nat) (c_r3 : Nat) (n4 : Int) (A_t45 : Option Addr) (n_t45 : Nat) (c_t45 : Nat) (Q : Post) (w : World) : (codeW none [] Try.prog 24 dag_row_with.k (lB (bB (sL (sR (body Try.f25))))) dag_row_with.u1 Q [(0, .slice A_r3 n_r3 c_r3), (1, .int .i64 n4), (4, .slice A_t45 n_t45 c_t45)] w) = dag_row_with.B1 A_r3 n_r3 c_r3 n4 A_t45 n_t45 c_t45 Q w := by kernel_rfl
theorem dag_row_with.loop1 {n4 : Int} {A_t45 : Option Addr} {n_t45 : Nat} {c_t45 : Nat} (I : (Option Addr) × Nat × Nat → World → Prop) (μ : (Option Addr) × Nat × Nat → World → Nat) (s : (Option Addr) × Nat × Nat) {Q : Post} {w : World} (h0 : I s w)
    (round : ∀ s w, I s w → dag_row_with.B1 (s.1) (s.2.1) (s.2.2) n4 A_t45 n_t45 c_t45 (roundQ (dag_row_with.e1 n4 A_t45 n_t45 c_t45) I μ s w Q) w) : Holds none [] Try.prog 24 (.loop (lB (bB (sL (sR (body Try.f25)))))) Q (dag_row_with.e1 n4 A_t45 n_t45 c_t45 s) w :=
  loop_of_eq ng mix (dag_row_with.e1 n4 A_t45 n_t45 c_t45) I μ dag_row_with.k dag_row_with.u1 s (fun s Q w => dag_row_with.B1 (s.1) (s.2.1) (s.2.2) n4 A_t45 n_t45 c_t45 Q w) (fun s Q w => dag_row_with.b1 (s.1) (s.2.1) (s.2.2) n4 A_t45 n_t45 c_t45 Q w) h0 round
def dag_row_with.X1_0 (A_r9 : Option Addr) (n_r9 : Nat) (c_r9 : Nat) (n10 : Int) (A_t411 : Option Addr) (n_t411 : Nat) (c_t411 : Nat) (K : Value → World → Prop) (w : World) : Prop :=
  let w_12 : World := w.drew; (64 : Int) ≠ 0 ∧ (0 ≤ (IntKind.i64.wrap (n10.tdiv (64 : Int))) ∧ (IntKind.i64.wrap (n10.tdiv (64 : Int))) < (n_r9 : Int)) ∧ Is A_r9 fun a13 : Addr => ∃ t1714 : Int, w_12.cell? (a13.add ((IntKind.i64.wrap (n10.tdiv (64 : Int))).toNat * 1)) = some (.int .u64 t1714) ∧ (64 : Int) ≠ 0 ∧ 0 ≤ (n10.tmod (64 : Int)) ∧ (0 ≤ (IntKind.i64.wrap (n10.tdiv (64 : Int))) ∧ (IntKind.i64.wrap (n10.tdiv (64 : Int))) < (n_r9 : Int)) ∧ Is A_r9 fun a15 : Addr => Wr w_12 (a15.add ((IntKind.i64.wrap (n10.tdiv (64 : Int))).toNat * 1)) ∧ let w_16 : World := w_12.setCell (a15.add ((IntKind.i64.wrap (n10.tdiv (64 : Int))).toNat * 1)) (.int .u64 (IntKind.u64.wrap ((BitVec.ofInt 64 t1714 ||| BitVec.ofInt 64 (IntKind.u64.wrap ((1 : Int) * 2 ^ (min (n10.tmod (64 : Int)).toNat 64)))).toNat))); K (.slice A_r9 n_r9 c_r9) w_16
theorem dag_row_with.x1_0 (A_r9 : Option Addr) (n_r9 : Nat) (c_r9 : Nat) (n10 : Int) (A_t411 : Option Addr) (n_t411 : Nat) (c_t411 : Nat) (K : Value → World → Prop) (w : World) : (dag_row_with.q1 K (.exit 0) [(0, .slice A_r9 n_r9 c_r9), (1, .int .i64 n10), (4, .slice A_t411 n_t411 c_t411)] w) = dag_row_with.X1_0 A_r9 n_r9 c_r9 n10 A_t411 n_t411 c_t411 K w := by kernel_rfl
/-! ### 27: (*plexus/dag.Graph).Anticone$1 -/
def dag_Graph_Anticone_fn1.k : List Nat := []
def dag_Graph_Anticone_fn1.W (i1 : Int) (n2 : Option Addr) (cap3 : Addr) (cap4 : Addr) (K : Value → World → Prop) (w : World) : Prop :=
  let w_5 : World := w.drew; ∃ t86 : Option Addr, w_5.cell? cap3 = some (.pointer t86) ∧ ∃ b7 : Bool, (Go.binOp .neq 43 (.pointer n2) (.pointer t86)).run Try.prog w_5 = .ok (.bool b7) w_5 ∧ Split b7 (Is n2 fun a8 : Addr => ∃ A_t149 : Option Addr, ∃ n_t149 : Nat, ∃ c_t149 : Nat, w_5.cell? (a8.add 34) = some (.slice A_t149 n_t149 c_t149) ∧ ∃ t1510 : Int, w_5.cell? cap4 = some (.int .i64 t1510) ∧ Ret Try.prog 28 #[.slice A_t149 n_t149 c_t149, .int .i64 t1510] w_5 fun v11 w_12 => ∃ t1613 : Bool, v11 = .bool t1613 ∧ Split (!t1613) (∃ t2014 : Option Addr, w_12.cell? cap3 = some (.pointer t2014) ∧ Is t2014 fun a15 : Addr => ∃ A_t2316 : Option Addr, ∃ n_t2316 : Nat, ∃ c_t2316 : Nat, w_12.cell? (a15.add 34) = some (.slice A_t2316 n_t2316 c_t2316) ∧ Ret Try.prog 28 #[.slice A_t2316 n_t2316 c_t2316, .int .i64 i1] w_12 fun v17 w_18 => ∃ t2519 : Bool, v17 = .bool t2519 ∧ K (.bool (!t2519)) w_18) (K (.bool false) w_12)) (K (.bool false) w_5)
theorem dag_Graph_Anticone_fn1.s (i1 : Int) (n2 : Option Addr) (cap3 : Addr) (cap4 : Addr) (K : Value → World → Prop) (w : World) : (codeW none [] Try.prog Try.f27.ntmps dag_Graph_Anticone_fn1.k (body Try.f27) (resSlots Try.f27) (funQ Try.prog Try.f27 K) (argEnv [.int .i64 i1, .pointer n2, .pointer (some cap3), .pointer (some cap4)] 0) w) = dag_Graph_Anticone_fn1.W i1 n2 cap3 cap4 K w := by kernel_rfl
theorem dag_Graph_Anticone_fn1.of {i1 : Int} {n2 : Option Addr} {cap3 : Addr} {cap4 : Addr} {K : Value → World → Prop} {w : World} (h : dag_Graph_Anticone_fn1.W i1 n2 cap3 cap4 K w) : Ret Try.prog 27 #[.int .i64 i1, .pointer n2, .pointer (some cap3), .pointer (some cap4)] w K :=
  ret_of_eq (C := dag_Graph_Anticone_fn1.k) (fn := Try.f27) (c := body Try.f27) ng mix Try.func27 (by kernel_rfl) (by kernel_rfl) (dag_Graph_Anticone_fn1.s i1 n2 cap3 cap4 K w) h
/-! ### 28: (plexus/dag.row).has -/
def dag_row_has.k : List Nat := []
def dag_row_has.W (A_r1 : Option Addr) (n_r1 : Nat) (c_r1 : Nat) (n2 : Int) (K : Value → World → Prop) (w : World) : Prop :=
  (64 : Int) ≠ 0 ∧ Split (decide ((IntKind.i64.wrap (n2.tdiv (64 : Int))) < (n_r1 : Int))) ((64 : Int) ≠ 0 ∧ (0 ≤ (IntKind.i64.wrap (n2.tdiv (64 : Int))) ∧ (IntKind.i64.wrap (n2.tdiv (64 : Int))) < (n_r1 : Int)) ∧ Is A_r1 fun a3 : Addr => ∃ t154 : Int, w.cell? (a3.add ((IntKind.i64.wrap (n2.tdiv (64 : Int))).toNat * 1)) = some (.int .u64 t154) ∧ (64 : Int) ≠ 0 ∧ 0 ≤ (n2.tmod (64 : Int)) ∧ K (.bool ((IntKind.u64.wrap ((BitVec.ofInt 64 (t154.fdiv (2 ^ (min (n2.tmod (64 : Int)).toNat 64))) &&& BitVec.ofInt 64 (1 : Int)).toNat)) == (1 : Int))) w) (K (.bool false) w)
theorem dag_row_has.s (A_r1 : Option Addr) (n_r1 : Nat) (c_r1 : Nat) (n2 : Int) (K : Value → World → Prop) (w : World) : (codeW none [] Try.prog Try.f28.ntmps dag_row_has.k (body Try.f28) (resSlots Try.f28) (funQ Try.prog Try.f28 K) (argEnv [.slice A_r1 n_r1 c_r1, .int .i64 n2] 0) w) = dag_row_has.W A_r1 n_r1 c_r1 n2 K w := by kernel_rfl
theorem dag_row_has.of {A_r1 : Option Addr} {n_r1 : Nat} {c_r1 : Nat} {n2 : Int} {K : Value → World → Prop} {w : World} (h : dag_row_has.W A_r1 n_r1 c_r1 n2 K w) : Ret Try.prog 28 #[.slice A_r1 n_r1 c_r1, .int .i64 n2] w K :=
  ret_of_eq (C := dag_row_has.k) (fn := Try.f28) (c := body Try.f28) ng mix Try.func28 (by kernel_rfl) (by kernel_rfl) (dag_row_has.s A_r1 n_r1 c_r1 n2 K w) h
/-! ### 26: (*plexus/dag.Graph).pick -/
def dag_Graph_pick__dag_Graph_Anticone_fn1.k : List Nat := []
def dag_Graph_pick__dag_Graph_Anticone_fn1.q1 (K : Value → World → Prop) : Post := (blockQ 0 (uses (sR (sR (sR (body Try.f26)))) ++ (resSlots Try.f26)) (thenQ (fun ρ_ w_ => match cutAt dag_Graph_pick__dag_Graph_Anticone_fn1.k (sR (sR (sR (body Try.f26)))) with | true => Holds none [] Try.prog 34 (sR (sR (sR (body Try.f26)))) (funQ Try.prog Try.f26 K) ρ_ w_ | false => codeW none [] Try.prog 34 dag_Graph_pick__dag_Graph_Anticone_fn1.k (sR (sR (sR (body Try.f26)))) (resSlots Try.f26) (funQ Try.prog Try.f26 K) ρ_ w_) (funQ Try.prog Try.f26 K)))
def dag_Graph_pick__dag_Graph_Anticone_fn1.e1 (isc12 : Addr) (isc13 : Addr) (A_t414 : Option Addr) (n_t414 : Nat) (c_t414 : Nat) (A_t1316 : Option Addr) (n_t1316 : Nat) (c_t1316 : Nat) (t1417 : Int) (s : (Option Addr) × Nat × Nat × Int) : Env := [(1, .func (.func 27) #[] #[.pointer (some isc12), .pointer (some isc13)]), (4, .slice A_t414 n_t414 c_t414), (5, .slice s.1 s.2.1 s.2.2.1), (13, .slice A_t1316 n_t1316 c_t1316), (14, .int .i64 t1417), (15, .int .i64 s.2.2.2)]
def dag_Graph_pick__dag_Graph_Anticone_fn1.u1 : List Nat := [1, 4, 5, 13, 14, 15]
def dag_Graph_pick__dag_Graph_Anticone_fn1.W (g1 : Option Addr) (cap2 : Addr) (cap3 : Addr) (K : Value → World → Prop) (w : World) : Prop :=
  Ret Try.prog 19 #[.pointer g1] w fun v4 w_5 => ∃ t96 : Bool, v4 = .bool t96 ∧ Split t96 (Is g1 fun a7 : Addr => ∃ A_t138 : Option Addr, ∃ n_t138 : Nat, ∃ c_t138 : Nat, w_5.cell? (a7.add 0) = some (.slice A_t138 n_t138 c_t138) ∧ Holds none [] Try.prog 34 (.loop (lB (bB (sR (cT (sR (sL (sR (sR (body Try.f26)))))))))) (dag_Graph_pick__dag_Graph_Anticone_fn1.q1 K) [(1, .func (.func 27) #[] #[.pointer (some cap2), .pointer (some cap3)]), (4, .slice none 0 0), (5, .slice none 0 0), (13, .slice A_t138 n_t138 c_t138), (14, .int .i64 (n_t138 : Int)), (15, .int .i64 0)] w_5) (Ret Try.prog 5 #[.slice none 0 0] w_5 fun v9 w_10 => ∃ A_t3311 : Option Addr, ∃ n_t3311 : Nat, ∃ c_t3311 : Nat, v9 = .slice A_t3311 n_t3311 c_t3311 ∧ K (.slice A_t3311 n_t3311 c_t3311) w_10)
theorem dag_Graph_pick__dag_Graph_Anticone_fn1.s (g1 : Option Addr) (cap2 : Addr) (cap3 : Addr) (K : Value → World → Prop) (w : World) : (codeW none [] Try.prog Try.f26.ntmps dag_Graph_pick__dag_Graph_Anticone_fn1.k (body Try.f26) (resSlots Try.f26) (funQ Try.prog Try.f26 K) (argEnv [.pointer g1, .func (.func 27) #[] #[.pointer (some cap2), .pointer (some cap3)]] 0) w) = dag_Graph_pick__dag_Graph_Anticone_fn1.W g1 cap2 cap3 K w := by kernel_rfl
theorem dag_Graph_pick__dag_Graph_Anticone_fn1.of {g1 : Option Addr} {cap2 : Addr} {cap3 : Addr} {K : Value → World → Prop} {w : World} (h : dag_Graph_pick__dag_Graph_Anticone_fn1.W g1 cap2 cap3 K w) : Ret Try.prog 26 #[.pointer g1, .func (.func 27) #[] #[.pointer (some cap2), .pointer (some cap3)]] w K :=
  ret_of_eq (C := dag_Graph_pick__dag_Graph_Anticone_fn1.k) (fn := Try.f26) (c := body Try.f26) ng mix Try.func26 (by kernel_rfl) (by kernel_rfl) (dag_Graph_pick__dag_Graph_Anticone_fn1.s g1 cap2 cap3 K w) h
def dag_Graph_pick__dag_Graph_Anticone_fn1.B1 (isc12 : Addr) (isc13 : Addr) (A_t414 : Option Addr) (n_t414 : Nat) (c_t414 : Nat) (A_out15 : Option Addr) (n_out15 : Nat) (c_out15 : Nat) (A_t1316 : Option Addr) (n_t1316 : Nat) (c_t1316 : Nat) (t1417 : Int) (t1518 : Int) (Q : Post) (w : World) : Prop :=
  Split (decide (t1518 < t1417)) ((0 ≤ t1518 ∧ t1518 < (n_t1316 : Int)) ∧ Is A_t1316 fun a19 : Addr => ∃ t1920 : Option Addr, w.cell? (a19.add (t1518.toNat * 1)) = some (.pointer t1920) ∧ Ret Try.prog 27 #[.int .i64 t1518, .pointer t1920, .pointer (some isc12), .pointer (some isc13)] w fun v21 w_22 => ∃ t2323 : Bool, v21 = .bool t2323 ∧ Split t2323 (Is t1920 fun a24 : Addr => ∃ t2825 : Array Value, (t2825.size = 32 ∧ Cells w_22 (a24.add 0) t2825) ∧ t2825.size = 32 ∧ let w_26 : World := w_22.alloc (.cells (t2825.toList ++ []).toArray 23); ∃ (A_t3027 : Option Addr) (n_t3027 c_t3027 : Nat) (w_28 : World), (Builtin.append_ #[24, 24] 24 #[.slice A_out15 n_out15 c_out15, .slice (some (⟨w_22.heap.size, 0, none⟩ : Addr)) 1 1]).run Try.prog w_26 = .ok (.slice A_t3027 n_t3027 c_t3027) w_28 ∧ Q .normal [(1, .func (.func 27) #[] #[.pointer (some isc12), .pointer (some isc13)]), (4, .slice A_t414 n_t414 c_t414), (5, .slice A_t3027 n_t3027 c_t3027), (13, .slice A_t1316 n_t1316 c_t1316), (14, .int .i64 t1417), (15, .int .i64 (IntKind.i64.wrap (t1518 + (1 : Int))))] w_28) (Q .normal [(1, .func (.func 27) #[] #[.pointer (some isc12), .pointer (some isc13)]), (4, .slice A_t414 n_t414 c_t414), (5, .slice A_out15 n_out15 c_out15), (13, .slice A_t1316 n_t1316 c_t1316), (14, .int .i64 t1417), (15, .int .i64 (IntKind.i64.wrap (t1518 + (1 : Int))))] w_22)) (Q (.exit 0) [(1, .func (.func 27) #[] #[.pointer (some isc12), .pointer (some isc13)]), (4, .slice A_t414 n_t414 c_t414), (5, .slice A_out15 n_out15 c_out15), (13, .slice A_t1316 n_t1316 c_t1316), (14, .int .i64 t1417), (15, .int .i64 t1518)] w)
theorem dag_Graph_pick__dag_Graph_Anticone_fn1.b1 (isc12 : Addr) (isc13 : Addr) (A_t414 : Option Addr) (n_t414 : Nat) (c_t414 : Nat) (A_out15 : Option Addr) (n_out15 : Nat) (c_out15 : Nat) (A_t1316 : Option Addr) (n_t1316 : Nat) (c_t1316 : Nat) (t1417 : Int) (t1518 : Int) (Q : Post) (w : World) : (codeW none [] Try.prog 34 dag_Graph_pick__dag_Graph_Anticone_fn1.k (lB (bB (sR (cT (sR (sL (sR (sR (body Try.f26))))))))) dag_Graph_pick__dag_Graph_Anticone_fn1.u1 Q [(1, .func (.func 27) #[] #[.pointer (some isc12), .pointer (some isc13)]), (4, .slice A_t414 n_t414 c_t414), (5, .slice A_out15 n_out15 c_out15), (13, .slice A_t1316 n_t1316 c_t1316), (14, .int .i64 t1417), (15, .int .i64 t1518)] w) = dag_Graph_pick__dag_Graph_Anticone_fn1.B1 isc12 isc13 A_t414 n_t414 c_t414 A_out15 n_out15 c_out15 A_t1316 n_t1316 c_t1316 t1417 t1518 Q w := by kernel_rfl
theorem dag_Graph_pick__dag_Graph_Anticone_fn1.loop1 {isc12 : Addr} {isc13 : Addr} {A_t414 : Option Addr} {n_t414 : Nat} {c_t414 : Nat} {A_t1316 : Option Addr} {n_t1316 : Nat} {c_t1316 : Nat} {t1417 : Int} (I : (Option Addr) × Nat × Nat × Int → World → Prop) (μ : (Option Addr) × Nat × Nat × Int → World → Nat) (s : (Option Addr) × Nat × Nat × Int) {Q : Post} {w : World} (h0 : I s w)
    (round : ∀ s w, I s w → dag_Graph_pick__dag_Graph_Anticone_fn1.B1 isc12 isc13 A_t414 n_t414 c_t414 (s.1) (s.2.1) (s.2.2.1) A_t1316 n_t1316 c_t1316 t1417 (s.2.2.2) (roundQ (dag_Graph_pick__dag_Graph_Anticone_fn1.e1 isc12 isc13 A_t414 n_t414 c_t414 A_t1316 n_t1316 c_t1316 t1417) I μ s w Q) w) : Holds none [] Try.prog 34 (.loop (lB (bB (sR (cT (sR (sL (sR (sR (body Try.f26)))))))))) Q (dag_Graph_pick__dag_Graph_Anticone_fn1.e1 isc12 isc13 A_t414 n_t414 c_t414 A_t1316 n_t1316 c_t1316 t1417 s) w :=
  loop_of_eq ng mix (dag_Graph_pick__dag_Graph_Anticone_fn1.e1 isc12 isc13 A_t414 n_t414 c_t414 A_t1316 n_t1316 c_t1316 t1417) I μ dag_Graph_pick__dag_Graph_Anticone_fn1.k dag_Graph_pick__dag_Graph_Anticone_fn1.u1 s (fun s Q w => dag_Graph_pick__dag_Graph_Anticone_fn1.B1 isc12 isc13 A_t414 n_t414 c_t414 (s.1) (s.2.1) (s.2.2.1) A_t1316 n_t1316 c_t1316 t1417 (s.2.2.2) Q w) (fun s Q w => dag_Graph_pick__dag_Graph_Anticone_fn1.b1 isc12 isc13 A_t414 n_t414 c_t414 (s.1) (s.2.1) (s.2.2.1) A_t1316 n_t1316 c_t1316 t1417 (s.2.2.2) Q w) h0 round
def dag_Graph_pick__dag_Graph_Anticone_fn1.X1_0 (isc29 : Addr) (isc30 : Addr) (A_t431 : Option Addr) (n_t431 : Nat) (c_t431 : Nat) (A_out32 : Option Addr) (n_out32 : Nat) (c_out32 : Nat) (A_t1333 : Option Addr) (n_t1333 : Nat) (c_t1333 : Nat) (t1434 : Int) (t1535 : Int) (K : Value → World → Prop) (w : World) : Prop :=
  Ret Try.prog 5 #[.slice A_out32 n_out32 c_out32] w fun v36 w_37 => ∃ A_t3338 : Option Addr, ∃ n_t3338 : Nat, ∃ c_t3338 : Nat, v36 = .slice A_t3338 n_t3338 c_t3338 ∧ K (.slice A_t3338 n_t3338 c_t3338) w_37
theorem dag_Graph_pick__dag_Graph_Anticone_fn1.x1_0 (isc29 : Addr) (isc30 : Addr) (A_t431 : Option Addr) (n_t431 : Nat) (c_t431 : Nat) (A_out32 : Option Addr) (n_out32 : Nat) (c_out32 : Nat) (A_t1333 : Option Addr) (n_t1333 : Nat) (c_t1333 : Nat) (t1434 : Int) (t1535 : Int) (K : Value → World → Prop) (w : World) : (dag_Graph_pick__dag_Graph_Anticone_fn1.q1 K (.exit 0) [(1, .func (.func 27) #[] #[.pointer (some isc29), .pointer (some isc30)]), (4, .slice A_t431 n_t431 c_t431), (5, .slice A_out32 n_out32 c_out32), (13, .slice A_t1333 n_t1333 c_t1333), (14, .int .i64 t1434), (15, .int .i64 t1535)] w) = dag_Graph_pick__dag_Graph_Anticone_fn1.X1_0 isc29 isc30 A_t431 n_t431 c_t431 A_out32 n_out32 c_out32 A_t1333 n_t1333 c_t1333 t1434 t1535 K w := by kernel_rfl
/-! ### 33: slices.IndexFunc[[]plexus/api.Hash,plexus/api.Hash] -/
def slices_IndexFunc_of_api_Hash__dag_Graph_Add_fn1.k : List Nat := []
def slices_IndexFunc_of_api_Hash__dag_Graph_Add_fn1.q1 (K : Value → World → Prop) : Post := (blockQ 0 (uses (sR (sR (body Try.f33))) ++ (resSlots Try.f33)) (thenQ (fun ρ_ w_ => match cutAt slices_IndexFunc_of_api_Hash__dag_Graph_Add_fn1.k (sR (sR (body Try.f33))) with | true => Holds none [] Try.prog 19 (sR (sR (body Try.f33))) (funQ Try.prog Try.f33 K) ρ_ w_ | false => codeW none [] Try.prog 19 slices_IndexFunc_of_api_Hash__dag_Graph_Add_fn1.k (sR (sR (body Try.f33))) (resSlots Try.f33) (funQ Try.prog Try.f33 K) ρ_ w_) (funQ Try.prog Try.f33 K)))
def slices_IndexFunc_of_api_Hash__dag_Graph_Add_fn1.e1 (A_s3 : Option Addr) (n_s3 : Nat) (c_s3 : Nat) (fc4 : Addr) (t76 : Int) (s : Int × Int) : Env := [(0, .slice A_s3 n_s3 c_s3), (1, .func (.func 22) #[] #[.pointer (some fc4)]), (4, .int .i64 s.1), (7, .int .i64 t76), (8, .int .i64 s.2)]
def slices_IndexFunc_of_api_Hash__dag_Graph_Add_fn1.u1 : List Nat := [0, 1, 4, 7, 8]
def slices_IndexFunc_of_api_Hash__dag_Graph_Add_fn1.W (A_s1 : Option Addr) (n_s1 : Nat) (c_s1 : Nat) (cap2 : Addr) (K : Value → World → Prop) (w : World) : Prop :=
  Holds none [] Try.prog 19 (.loop (lB (bB (sR (sL (sR (body Try.f33))))))) (slices_IndexFunc_of_api_Hash__dag_Graph_Add_fn1.q1 K) [(0, .slice A_s1 n_s1 c_s1), (1, .func (.func 22) #[] #[.pointer (some cap2)]), (4, .int .i64 0), (7, .int .i64 (n_s1 : Int)), (8, .int .i64 0)] w
theorem slices_IndexFunc_of_api_Hash__dag_Graph_Add_fn1.s (A_s1 : Option Addr) (n_s1 : Nat) (c_s1 : Nat) (cap2 : Addr) (K : Value → World → Prop) (w : World) : (codeW none [] Try.prog Try.f33.ntmps slices_IndexFunc_of_api_Hash__dag_Graph_Add_fn1.k (body Try.f33) (resSlots Try.f33) (funQ Try.prog Try.f33 K) (argEnv [.slice A_s1 n_s1 c_s1, .func (.func 22) #[] #[.pointer (some cap2)]] 0) w) = slices_IndexFunc_of_api_Hash__dag_Graph_Add_fn1.W A_s1 n_s1 c_s1 cap2 K w := by kernel_rfl
theorem slices_IndexFunc_of_api_Hash__dag_Graph_Add_fn1.of {A_s1 : Option Addr} {n_s1 : Nat} {c_s1 : Nat} {cap2 : Addr} {K : Value → World → Prop} {w : World} (h : slices_IndexFunc_of_api_Hash__dag_Graph_Add_fn1.W A_s1 n_s1 c_s1 cap2 K w) : Ret Try.prog 33 #[.slice A_s1 n_s1 c_s1, .func (.func 22) #[] #[.pointer (some cap2)]] w K :=
  ret_of_eq (C := slices_IndexFunc_of_api_Hash__dag_Graph_Add_fn1.k) (fn := Try.f33) (c := body Try.f33) ng mix Try.func33 (by kernel_rfl) (by kernel_rfl) (slices_IndexFunc_of_api_Hash__dag_Graph_Add_fn1.s A_s1 n_s1 c_s1 cap2 K w) h
def slices_IndexFunc_of_api_Hash__dag_Graph_Add_fn1.B1 (A_s3 : Option Addr) (n_s3 : Nat) (c_s3 : Nat) (fc4 : Addr) (t45 : Int) (t76 : Int) (t87 : Int) (Q : Post) (w : World) : Prop :=
  Split (decide (t87 < t76)) ((0 ≤ t87 ∧ t87 < (n_s3 : Int)) ∧ Is A_s3 fun a8 : Addr => ∃ t159 : Array Value, (t159.size = 32 ∧ Cells w (a8.add (t87.toNat * 32)) t159) ∧ Ret Try.prog 22 #[.agg t159, .pointer (some fc4)] w fun v10 w_11 => ∃ t1612 : Bool, v10 = .bool t1612 ∧ Split t1612 (Q .ret [(0, .slice A_s3 n_s3 c_s3), (1, .func (.func 22) #[] #[.pointer (some fc4)]), (4, .int .i64 t87), (7, .int .i64 t76), (8, .int .i64 t87)] w_11) (Q .normal [(0, .slice A_s3 n_s3 c_s3), (1, .func (.func 22) #[] #[.pointer (some fc4)]), (4, .int .i64 t45), (7, .int .i64 t76), (8, .int .i64 (IntKind.i64.wrap (t87 + (1 : Int))))] w_11)) (Q (.exit 0) [(0, .slice A_s3 n_s3 c_s3), (1, .func (.func 22) #[] #[.pointer (some fc4)]), (4, .int .i64 t45), (7, .int .i64 t76), (8, .int .i64 t87)] w)
theorem slices_IndexFunc_of_api_Hash__dag_Graph_Add_fn1.b1 (A_s3 : Option Addr) (n_s3 : Nat) (c_s3 : Nat) (fc4 : Addr) (t45 : Int) (t76 : Int) (t87 : Int) (Q : Post) (w : World) : (codeW none [] Try.prog 19 slices_IndexFunc_of_api_Hash__dag_Graph_Add_fn1.k (lB (bB (sR (sL (sR (body Try.f33)))))) slices_IndexFunc_of_api_Hash__dag_Graph_Add_fn1.u1 Q [(0, .slice A_s3 n_s3 c_s3), (1, .func (.func 22) #[] #[.pointer (some fc4)]), (4, .int .i64 t45), (7, .int .i64 t76), (8, .int .i64 t87)] w) = slices_IndexFunc_of_api_Hash__dag_Graph_Add_fn1.B1 A_s3 n_s3 c_s3 fc4 t45 t76 t87 Q w := by kernel_rfl
theorem slices_IndexFunc_of_api_Hash__dag_Graph_Add_fn1.loop1 {A_s3 : Option Addr} {n_s3 : Nat} {c_s3 : Nat} {fc4 : Addr} {t76 : Int} (I : Int × Int → World → Prop) (μ : Int × Int → World → Nat) (s : Int × Int) {Q : Post} {w : World} (h0 : I s w)
    (round : ∀ s w, I s w → slices_IndexFunc_of_api_Hash__dag_Graph_Add_fn1.B1 A_s3 n_s3 c_s3 fc4 (s.1) t76 (s.2) (roundQ (slices_IndexFunc_of_api_Hash__dag_Graph_Add_fn1.e1 A_s3 n_s3 c_s3 fc4 t76) I μ s w Q) w) : Holds none [] Try.prog 19 (.loop (lB (bB (sR (sL (sR (body Try.f33))))))) Q (slices_IndexFunc_of_api_Hash__dag_Graph_Add_fn1.e1 A_s3 n_s3 c_s3 fc4 t76 s) w :=
  loop_of_eq ng mix (slices_IndexFunc_of_api_Hash__dag_Graph_Add_fn1.e1 A_s3 n_s3 c_s3 fc4 t76) I μ slices_IndexFunc_of_api_Hash__dag_Graph_Add_fn1.k slices_IndexFunc_of_api_Hash__dag_Graph_Add_fn1.u1 s (fun s Q w => slices_IndexFunc_of_api_Hash__dag_Graph_Add_fn1.B1 A_s3 n_s3 c_s3 fc4 (s.1) t76 (s.2) Q w) (fun s Q w => slices_IndexFunc_of_api_Hash__dag_Graph_Add_fn1.b1 A_s3 n_s3 c_s3 fc4 (s.1) t76 (s.2) Q w) h0 round
def slices_IndexFunc_of_api_Hash__dag_Graph_Add_fn1.X1_0 (A_s13 : Option Addr) (n_s13 : Nat) (c_s13 : Nat) (fc14 : Addr) (t415 : Int) (t716 : Int) (t817 : Int) (K : Value → World → Prop) (w : World) : Prop :=
  K (.int .i64 (-1)) w
theorem slices_IndexFunc_of_api_Hash__dag_Graph_Add_fn1.x1_0 (A_s13 : Option Addr) (n_s13 : Nat) (c_s13 : Nat) (fc14 : Addr) (t415 : Int) (t716 : Int) (t817 : Int) (K : Value → World → Prop) (w : World) : (slices_IndexFunc_of_api_Hash__dag_Graph_Add_fn1.q1 K (.exit 0) [(0, .slice A_s13 n_s13 c_s13), (1, .func (.func 22) #[] #[.pointer (some fc14)]), (4, .int .i64 t415), (7, .int .i64 t716), (8, .int .i64 t817)] w) = slices_IndexFunc_of_api_Hash__dag_Graph_Add_fn1.X1_0 A_s13 n_s13 c_s13 fc14 t415 t716 t817 K w := by kernel_rfl
/-! ### 21: slices.ContainsFunc[[]plexus/api.Hash,plexus/api.Hash] -/
def slices_ContainsFunc_of_api_Hash__dag_Graph_Add_fn1.k : List Nat := []
def slices_ContainsFunc_of_api_Hash__dag_Graph_Add_fn1.W (A_s1 : Option Addr) (n_s1 : Nat) (c_s1 : Nat) (cap2 : Addr) (K : Value → World → Prop) (w : World) : Prop :=
  Ret Try.prog 33 #[.slice A_s1 n_s1 c_s1, .func (.func 22) #[] #[.pointer (some cap2)]] w fun v3 w_4 => ∃ t75 : Int, v3 = .int .i64 t75 ∧ K (.bool (decide (t75 ≥ (0 : Int)))) w_4
theorem slices_ContainsFunc_of_api_Hash__dag_Graph_Add_fn1.s (A_s1 : Option Addr) (n_s1 : Nat) (c_s1 : Nat) (cap2 : Addr) (K : Value → World → Prop) (w : World) : (codeW none [] Try.prog Try.f21.ntmps slices_ContainsFunc_of_api_Hash__dag_Graph_Add_fn1.k (body Try.f21) (resSlots Try.f21) (funQ Try.prog Try.f21 K) (argEnv [.slice A_s1 n_s1 c_s1, .func (.func 22) #[] #[.pointer (some cap2)]] 0) w) = slices_ContainsFunc_of_api_Hash__dag_Graph_Add_fn1.W A_s1 n_s1 c_s1 cap2 K w := by kernel_rfl
theorem slices_ContainsFunc_of_api_Hash__dag_Graph_Add_fn1.of {A_s1 : Option Addr} {n_s1 : Nat} {c_s1 : Nat} {cap2 : Addr} {K : Value → World → Prop} {w : World} (h : slices_ContainsFunc_of_api_Hash__dag_Graph_Add_fn1.W A_s1 n_s1 c_s1 cap2 K w) : Ret Try.prog 21 #[.slice A_s1 n_s1 c_s1, .func (.func 22) #[] #[.pointer (some cap2)]] w K :=
  ret_of_eq (C := slices_ContainsFunc_of_api_Hash__dag_Graph_Add_fn1.k) (fn := Try.f21) (c := body Try.f21) ng mix Try.func21 (by kernel_rfl) (by kernel_rfl) (slices_ContainsFunc_of_api_Hash__dag_Graph_Add_fn1.s A_s1 n_s1 c_s1 cap2 K w) h
/-! ### 31: slices.Values[[]plexus/api.Hash,plexus/api.Hash]$1 -/
def slices_Values_of_api_Hash_fn1.k : List Nat := []
def slices_Values_of_api_Hash_fn1.q1 (K : Value → World → Prop) : Post := (blockQ 0 (resSlots Try.f31) (funQ Try.prog Try.f31 K))
def slices_Values_of_api_Hash_fn1.e1 (yield4 : Nat) (A_t55 : Option Addr) (n_t55 : Nat) (c_t55 : Nat) (t66 : Int) (s : Int) : Env := [(0, .func (.yield yield4) #[] #[]), (5, .slice A_t55 n_t55 c_t55), (6, .int .i64 t66), (7, .int .i64 s)]
def slices_Values_of_api_Hash_fn1.u1 : List Nat := [0, 5, 6, 7]
def slices_Values_of_api_Hash_fn1.W (l1 : Nat) (cap2 : Addr) (K : Value → World → Prop) (w : World) : Prop :=
  ∃ A_t53 : Option Addr, ∃ n_t53 : Nat, ∃ c_t53 : Nat, w.cell? cap2 = some (.slice A_t53 n_t53 c_t53) ∧ Holds none [] Try.prog 16 (.loop (lB (bB (sR (body Try.f31))))) (slices_Values_of_api_Hash_fn1.q1 K) [(0, .func (.yield l1) #[] #[]), (5, .slice A_t53 n_t53 c_t53), (6, .int .i64 (n_t53 : Int)), (7, .int .i64 0)] w
theorem slices_Values_of_api_Hash_fn1.s (l1 : Nat) (cap2 : Addr) (K : Value → World → Prop) (w : World) : (codeW none [] Try.prog Try.f31.ntmps slices_Values_of_api_Hash_fn1.k (body Try.f31) (resSlots Try.f31) (funQ Try.prog Try.f31 K) (argEnv [.func (.yield l1) #[] #[], .pointer (some cap2)] 0) w) = slices_Values_of_api_Hash_fn1.W l1 cap2 K w := by kernel_rfl
theorem slices_Values_of_api_Hash_fn1.of {l1 : Nat} {cap2 : Addr} {K : Value → World → Prop} {w : World} (h : slices_Values_of_api_Hash_fn1.W l1 cap2 K w) : Ret Try.prog 31 #[.func (.yield l1) #[] #[], .pointer (some cap2)] w K :=
  ret_of_eq (C := slices_Values_of_api_Hash_fn1.k) (fn := Try.f31) (c := body Try.f31) ng mix Try.func31 (by kernel_rfl) (by kernel_rfl) (slices_Values_of_api_Hash_fn1.s l1 cap2 K w) h
def slices_Values_of_api_Hash_fn1.B1 (yield4 : Nat) (A_t55 : Option Addr) (n_t55 : Nat) (c_t55 : Nat) (t66 : Int) (t77 : Int) (Q : Post) (w : World) : Prop :=
  Split (decide (t77 < t66)) ((0 ≤ t77 ∧ t77 < (n_t55 : Int)) ∧ Is A_t55 fun a8 : Addr => ∃ t109 : Array Value, (t109.size = 32 ∧ Cells w (a8.add (t77.toNat * 32)) t109) ∧ let w_10 : World := w.alloc (.cells (#[.int .u8 0, .int .u8 0, .int .u8 0, .int .u8 0, .int .u8 0, .int .u8 0, .int .u8 0, .int .u8 0, .int .u8 0, .int .u8 0, .int .u8 0, .int .u8 0, .int .u8 0, .int .u8 0, .int .u8 0, .int .u8 0, .int .u8 0, .int .u8 0, .int .u8 0, .int .u8 0, .int .u8 0, .int .u8 0, .int .u8 0, .int .u8 0, .int .u8 0, .int .u8 0, .int .u8 0, .int .u8 0, .int .u8 0, .int .u8 0, .int .u8 0, .int .u8 0] : Array Value) 23); (t109.size = 32 ∧ (∀ c11 ∈ t109.toList, c11.oneCell' = true) ∧ ∀ j12, j12 < 32 → Wr w_10 ((⟨w.heap.size, 0, none⟩ : Addr).add j12)) ∧ let w_13 : World := setCells w_10 (⟨w.heap.size, 0, none⟩ : Addr) t109.toList 0; ∃ t1214 : Array Value, (t1214.size = 32 ∧ Cells w_13 (⟨w.heap.size, 0, none⟩ : Addr) t1214) ∧ YieldsTo Try.prog yield4 #[.agg t1214] w_13 fun b15 w_16 => Split (!b15) (Q .ret [(0, .func (.yield yield4) #[] #[]), (5, .slice A_t55 n_t55 c_t55), (6, .int .i64 t66), (7, .int .i64 t77)] w_16) (Q .normal [(0, .func (.yield yield4) #[] #[]), (5, .slice A_t55 n_t55 c_t55), (6, .int .i64 t66), (7, .int .i64 (IntKind.i64.wrap (t77 + (1 : Int))))] w_16)) (Q (.exit 0) [(0, .func (.yield yield4) #[] #[]), (5, .slice A_t55 n_t55 c_t55), (6, .int .i64 t66), (7, .int .i64 t77)] w)
theorem slices_Values_of_api_Hash_fn1.b1 (yield4 : Nat) (A_t55 : Option Addr) (n_t55 : Nat) (c_t55 : Nat) (t66 : Int) (t77 : Int) (Q : Post) (w : World) : (codeW none [] Try.prog 16 slices_Values_of_api_Hash_fn1.k (lB (bB (sR (body Try.f31)))) slices_Values_of_api_Hash_fn1.u1 Q [(0, .func (.yield yield4) #[] #[]), (5, .slice A_t55 n_t55 c_t55), (6, .int .i64 t66), (7, .int .i64 t77)] w) = slices_Values_of_api_Hash_fn1.B1 yield4 A_t55 n_t55 c_t55 t66 t77 Q w := by kernel_rfl
theorem slices_Values_of_api_Hash_fn1.loop1 {yield4 : Nat} {A_t55 : Option Addr} {n_t55 : Nat} {c_t55 : Nat} {t66 : Int} (I : Int → World → Prop) (μ : Int → World → Nat) (s : Int) {Q : Post} {w : World} (h0 : I s w)
    (round : ∀ s w, I s w → slices_Values_of_api_Hash_fn1.B1 yield4 A_t55 n_t55 c_t55 t66 (s) (roundQ (slices_Values_of_api_Hash_fn1.e1 yield4 A_t55 n_t55 c_t55 t66) I μ s w Q) w) : Holds none [] Try.prog 16 (.loop (lB (bB (sR (body Try.f31))))) Q (slices_Values_of_api_Hash_fn1.e1 yield4 A_t55 n_t55 c_t55 t66 s) w :=
  loop_of_eq ng mix (slices_Values_of_api_Hash_fn1.e1 yield4 A_t55 n_t55 c_t55 t66) I μ slices_Values_of_api_Hash_fn1.k slices_Values_of_api_Hash_fn1.u1 s (fun s Q w => slices_Values_of_api_Hash_fn1.B1 yield4 A_t55 n_t55 c_t55 t66 (s) Q w) (fun s Q w => slices_Values_of_api_Hash_fn1.b1 yield4 A_t55 n_t55 c_t55 t66 (s) Q w) h0 round
def slices_Values_of_api_Hash_fn1.X1_0 (yield17 : Nat) (A_t518 : Option Addr) (n_t518 : Nat) (c_t518 : Nat) (t619 : Int) (t720 : Int) (K : Value → World → Prop) (w : World) : Prop :=
  K (.tuple #[]) w
theorem slices_Values_of_api_Hash_fn1.x1_0 (yield17 : Nat) (A_t518 : Option Addr) (n_t518 : Nat) (c_t518 : Nat) (t619 : Int) (t720 : Int) (K : Value → World → Prop) (w : World) : (slices_Values_of_api_Hash_fn1.q1 K (.exit 0) [(0, .func (.yield yield17) #[] #[]), (5, .slice A_t518 n_t518 c_t518), (6, .int .i64 t619), (7, .int .i64 t720)] w) = slices_Values_of_api_Hash_fn1.X1_0 yield17 A_t518 n_t518 c_t518 t619 t720 K w := by kernel_rfl
end Go.Proofs.Ytljckpecmlnbiaa
