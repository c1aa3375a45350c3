/-
  The parts of the functions' texts, as the small calculus tells them: each by the kernel. Written by our gen.py.
-/
import Derived.Test.YtljckpecmlnbiaaDoorProg
import Derived.Test.YtljckpecmlnbiaaDoorMA
set_option linter.unusedVariables false
namespace Go.Proofs.YtljckpecmlnbiaaDoor
open Go Go.Lite
abbrev T_ : Nat := 0
abbrev T_func : Nat := 1
abbrev T_int64 : Nat := 2
abbrev T_int : Nat := 3
abbrev T_bool : Nat := 4
abbrev T_uint8 : Nat := 5
abbrev T_abi_BoundsErrorCode : Nat := 6
abbrev T_struct_x_int64_y_int_signed_bool_code_abi_BoundsErrorCode : Nat := 7
abbrev T_runtime_boundsError : Nat := 8
abbrev T_string : Nat := 9
abbrev T_runtime_errorString : Nat := 10
abbrev T_runtime_plainError : Nat := 11
abbrev T_uintptr : Nat := 12
abbrev T_struct_msg_string_addr_uintptr : Nat := 13
abbrev T_runtime_errorAddressString : Nat := 14
abbrev T_p_runtime_TypeAssertionError : Nat := 15
abbrev T_p_runtime_PanicNilError : Nat := 16
abbrev T_p_abi_Type : Nat := 17
abbrev T_struct_typ_p_abi_Type : Nat := 18
abbrev T_maps_unhashableTypeError : Nat := 19
abbrev T_interface : Nat := 20
abbrev T_int32 : Nat := 21
abbrev T_arr32_uint8 : Nat := 22
abbrev T_api_Hash : Nat := 23
abbrev T_sl_plexuslaw10_Step : Nat := 24
abbrev T_sl_api_Hash : Nat := 25
abbrev T_func_sl_plexuslaw10_Step_int_bool : Nat := 26
abbrev T_func_bool : Nat := 27
abbrev T_p_dag_Graph : Nat := 28
abbrev T_p_plexusref10_Graph : Nat := 29
abbrev T_p_dag_Graph_p_plexusref10_Graph_bool : Nat := 30
abbrev T_func_api_Hash_sl_plexuslaw10_Step_p_dag_Graph_p_plexusref10_Graph_bool : Nat := 31
abbrev T_sl_plexusref10_Node : Nat := 32
abbrev T_struct_L_sl_plexusref10_Node : Nat := 33
abbrev T_plexusref10_Graph : Nat := 34
abbrev T_struct_ID_api_Hash_Parents_sl_api_Hash : Nat := 35
abbrev T_plexusref10_Node : Nat := 36
abbrev T_func_sl_api_Hash_sl_api_Hash : Nat := 37
abbrev T_func_api_Hash_api_Hash_bool : Nat := 38
abbrev T_func_sl_api_Hash_api_Hash_bool : Nat := 39
abbrev T_func_sl_api_Hash_sl_api_Hash_bool : Nat := 40
abbrev T_func_api_Hash_sl_api_Hash : Nat := 41
abbrev T_func_api_Hash_sl_plexuslaw10_Step_sl_api_Hash_bool : Nat := 42
abbrev T_func_int : Nat := 44
abbrev T_func_api_Hash_sl_plexuslaw10_Step_bool : Nat := 45
abbrev T_func_p_dag_Graph_p_plexusref10_Graph_bool : Nat := 46
abbrev T_func_p_dag_Graph_p_plexusref10_Graph_api_Hash_bool : Nat := 47
abbrev T_func_api_Hash_sl_plexuslaw10_Step_api_Hash_bool : Nat := 48
abbrev T_func_p_dag_Graph : Nat := 49
abbrev T_api_Errno : Nat := 50
abbrev T_func_api_Hash_api_Hash_api_Errno : Nat := 51
abbrev T_plexuslaw10_Step : Nat := 52
abbrev T_func_api_Hash_sl_api_Hash_int : Nat := 53
abbrev T_func_api_Hash_sl_plexuslaw10_Step_sl_plexuslaw10_Step_sl_plexuslaw10_Step_bool : Nat := 54
abbrev T_sl_p_dag_node : Nat := 55
abbrev T_map_api_Hash_int : Nat := 56
abbrev T_struct_nodes_sl_p_dag_node_at_map_api_Hash_int : Nat := 57
abbrev T_dag_Graph : Nat := 58
abbrev T_sl_p_dag_Graph : Nat := 59
abbrev T_func_func_api_Hash_bool : Nat := 60
abbrev T_iter_Seqarrplexus_api_Hash : Nat := 61
abbrev T_func_iter_Seqarrplexus_api_Hash : Nat := 62
abbrev T_sl_api_Hash_api_Errno : Nat := 63
abbrev T_func_api_Hash_sl_api_Hash_api_Errno : Nat := 64
abbrev T_func_api_Hash_bool : Nat := 65
abbrev T_func_api_Hash : Nat := 66
abbrev T_func_sl_api_Hash : Nat := 67
abbrev T_func_api_Hash_p_dag_Graph : Nat := 68
abbrev T_func_api_Hash_int : Nat := 69
abbrev T_p_dag_node : Nat := 70
abbrev T_func_api_Hash_p_dag_node : Nat := 71
abbrev T_sl_uint64 : Nat := 72
abbrev T_dag_row : Nat := 73
abbrev T_struct_id_api_Hash_parents_sl_api_Hash_children_sl_api_Hash_past_dag_row : Nat := 74
abbrev T_dag_node : Nat := 75
abbrev T_func_int_bool : Nat := 76
abbrev T_func_dag_row_dag_row : Nat := 77
abbrev T_func_func_int_bool : Nat := 78
abbrev T_iter_Seqarrint : Nat := 79
abbrev T_func_iter_Seqarrint : Nat := 80
abbrev T_func_func_int_p_dag_node_bool_sl_api_Hash : Nat := 81
abbrev T_func_int_p_dag_node_bool : Nat := 82
abbrev T_func_api_Hash_api_Hash_int : Nat := 83
abbrev T_func_map_api_Hash_int_map_api_Hash_int : Nat := 84
abbrev T_func_sl_api_Hash_func_api_Hash_bool_bool : Nat := 85
abbrev T_func_int_dag_row : Nat := 86
abbrev T_int_bool : Nat := 87
abbrev T_uint64 : Nat := 88
abbrev T_func_uint64_int : Nat := 89
abbrev T_func_iter_Seqarrplexus_api_Hash__func_api_Hash_api_Hash_int_sl_api_Hash : Nat := 90
abbrev T_func_sl_api_Hash_iter_Seqarrplexus_api_Hash : Nat := 91
abbrev T_func_interface_interface : Nat := 92
abbrev T_func_sl_api_Hash_func_api_Hash_bool_int : Nat := 93
abbrev T_arr64_uint8 : Nat := 94
abbrev T_uint : Nat := 95
abbrev T_func_iter_Seqarrplexus_api_Hash__sl_api_Hash : Nat := 96
abbrev T_func_sl_api_Hash_func_api_Hash_api_Hash_int : Nat := 97
abbrev T_func_sl_uint8_sl_uint8_int : Nat := 98
abbrev T_sl_uint8 : Nat := 99
abbrev T_func_sl_api_Hash_iter_Seqarrplexus_api_Hash__sl_api_Hash : Nat := 100
abbrev T_func_sl_api_Hash_int_int_int_func_api_Hash_api_Hash_int : Nat := 101
abbrev T_func_uint_int : Nat := 102
abbrev T_func_sl_api_Hash_int_int_func_api_Hash_api_Hash_int : Nat := 103
abbrev T_slices_sortedHint : Nat := 104
abbrev T_int_slices_sortedHint : Nat := 105
abbrev T_func_sl_api_Hash_int_int_func_api_Hash_api_Hash_int_int_slices_sortedHint : Nat := 106
abbrev T_func_sl_api_Hash_int_int_func_api_Hash_api_Hash_int_bool : Nat := 107
abbrev T_func_sl_api_Hash_int_int_int_func_api_Hash_api_Hash_int_int : Nat := 108
abbrev T_func_sl_api_Hash_int_int_int_func_api_Hash_api_Hash_int_int_bool : Nat := 109
abbrev T_func_uint32_int : Nat := 110
abbrev T_uint32 : Nat := 111
abbrev T_slices_xorshift : Nat := 112
abbrev T_func_int_uint : Nat := 113
abbrev T_func_uint64 : Nat := 114
abbrev T_func_sl_api_Hash_int_p_int_func_api_Hash_api_Hash_int_int : Nat := 115
abbrev T_p_int : Nat := 116
abbrev T_func_sl_api_Hash_int_int_int_p_int_func_api_Hash_api_Hash_int_int : Nat := 117
abbrev T_p_slices_xorshift : Nat := 118
abbrev T_int_int : Nat := 119
abbrev T_func_sl_api_Hash_int_int_p_int_func_api_Hash_api_Hash_int_int_int : Nat := 120
abbrev T_func_string : Nat := 121
abbrev T_struct__interface_p_abi_Type_concrete_p_abi_Type_asserted_p_abi_Type_missingMethod_string : Nat := 122
abbrev T_runtime_TypeAssertionError : Nat := 123
abbrev T_arr0_p_runtime_PanicNilError : Nat := 124
abbrev T_struct___arr0_p_runtime_PanicNilError : Nat := 125
abbrev T_runtime_PanicNilError : Nat := 126
abbrev T_abi_TFlag : Nat := 127
abbrev T_abi_Kind : Nat := 128
abbrev T_func_unsafe_Pointer_unsafe_Pointer_bool : Nat := 129
abbrev T_p_uint8 : Nat := 130
abbrev T_abi_NameOff : Nat := 131
abbrev T_abi_TypeOff : Nat := 132
abbrev T_struct_Size__uintptr_PtrBytes_uintptr_Hash_uint32_TFlag_abi_TFlag_Align__uint8_FieldAlign__uint8_Kind__abi_Kind_Equal_func_unsafe_Pointer_unsafe_Pointer_bool_GCData_p_uint8_Str_abi_NameOff_PtrToThis_abi_TypeOff : Nat := 133
abbrev T_abi_Type : Nat := 134
abbrev T_unsafe_Pointer : Nat := 135
abbrev main_main.id : Nat := 0
abbrev gosem_cut.id : Nat := 1
abbrev gosem_cut_init.id : Nat := 2
abbrev law10_DagBefore.id : Nat := 3
abbrev law10_DagParts.id : Nat := 4
abbrev law10_DagPlays.id : Nat := 5
abbrev law10_DagApart.id : Nat := 6
abbrev law10_DagNil.id : Nat := 7
abbrev law10_few.id : Nat := 8
abbrev law10_known.id : Nat := 9
abbrev law10_begin.id : Nat := 10
abbrev ref10_Graph_Past.id : Nat := 11
abbrev dag_Graph_Before.id : Nat := 12
abbrev ref10_In.id : Nat := 13
abbrev ref10_Equal.id : Nat := 14
abbrev dag_Graph_Past.id : Nat := 15
abbrev dag_Graph_Future.id : Nat := 16
abbrev dag_Graph_Anticone.id : Nat := 17
abbrev dag_Graph_Len.id : Nat := 18
abbrev ref10_Sorted.id : Nat := 19
abbrev law10_same.id : Nat := 20
abbrev law10_looks.id : Nat := 21
abbrev dag_Graph_Copy.id : Nat := 22
abbrev dag_Graph_Add.id : Nat := 23
abbrev ref10_Graph_Add.id : Nat := 24
abbrev dag_Graph_All.id : Nat := 25
abbrev dag_Graph_Parents.id : Nat := 26
abbrev dag_Graph_Children.id : Nat := 27
abbrev dag_Graph_Has.id : Nat := 28
abbrev dag_Graph_Root.id : Nat := 29
abbrev dag_Graph_Tips.id : Nat := 30
abbrev dag_New.id : Nat := 31
abbrev ref10_Graph_At.id : Nat := 32
abbrev dag_Graph_find.id : Nat := 33
abbrev dag_row_has.id : Nat := 34
abbrev dag_row_or.id : Nat := 35
abbrev dag_row_all.id : Nat := 36
abbrev dag_Sorted.id : Nat := 37
abbrev dag_Graph_pick.id : Nat := 38
abbrev dag_Graph_Future_fn1.id : Nat := 39
abbrev dag_Graph_Anticone_fn1.id : Nat := 40
abbrev dag_Graph_there.id : Nat := 41
abbrev ref10_Compare.id : Nat := 42
abbrev ref10_Graph_Tips.id : Nat := 43
abbrev ref10_Graph_Children.id : Nat := 44
abbrev ref10_Graph_Future.id : Nat := 45
abbrev ref10_Graph_Anticone.id : Nat := 46
abbrev maps_Clone_of_int.id : Nat := 47
abbrev slices_Clone_of_api_Hash.id : Nat := 48
abbrev slices_ContainsFunc_of_api_Hash.id : Nat := 49
abbrev dag_Graph_Add_fn1.id : Nat := 50
abbrev dag_row_with.id : Nat := 51
abbrev dag_Graph_All_fn1.id : Nat := 52
abbrev dag_Graph_Tips_fn1.id : Nat := 53
abbrev dag_row_all_fn1.id : Nat := 54
abbrev bits_TrailingZeros64.id : Nat := 55
abbrev slices_Compact_of_api_Hash.id : Nat := 56
abbrev slices_SortedFunc_of_api_Hash.id : Nat := 57
abbrev slices_Values_of_api_Hash.id : Nat := 58
abbrev dag_Compare.id : Nat := 59
abbrev ref10_Graph_Before.id : Nat := 60
abbrev ref10_Graph_Apart.id : Nat := 61
abbrev maps_clone.id : Nat := 62
abbrev slices_IndexFunc_of_api_Hash.id : Nat := 63
abbrev slices_Collect_of_api_Hash.id : Nat := 64
abbrev slices_SortFunc_of_api_Hash.id : Nat := 65
abbrev slices_Values_of_api_Hash_fn1.id : Nat := 66
abbrev bytes_Compare.id : Nat := 67
abbrev slices_AppendSeq_of_api_Hash.id : Nat := 68
abbrev slices_pdqsortCmpFunc_of_api_Hash.id : Nat := 69
abbrev bits_Len.id : Nat := 70
abbrev bytealg_Compare.id : Nat := 71
abbrev slices_insertionSortCmpFunc_of_api_Hash.id : Nat := 72
abbrev slices_heapSortCmpFunc_of_api_Hash.id : Nat := 73
abbrev slices_breakPatternsCmpFunc_of_api_Hash.id : Nat := 74
abbrev slices_choosePivotCmpFunc_of_api_Hash.id : Nat := 75
abbrev slices_reverseRangeCmpFunc_of_api_Hash.id : Nat := 76
abbrev slices_partialInsertionSortCmpFunc_of_api_Hash.id : Nat := 77
abbrev slices_partitionEqualCmpFunc_of_api_Hash.id : Nat := 78
abbrev slices_partitionCmpFunc_of_api_Hash.id : Nat := 79
abbrev bits_Len32.id : Nat := 80
abbrev bits_Len64.id : Nat := 81
abbrev slices_siftDownCmpFunc_of_api_Hash.id : Nat := 82
abbrev slices_nextPowerOfTwo.id : Nat := 83
abbrev slices_xorshift_Next.id : Nat := 84
abbrev slices_medianAdjacentCmpFunc_of_api_Hash.id : Nat := 85
abbrev slices_medianCmpFunc_of_api_Hash.id : Nat := 86
abbrev slices_order2CmpFunc_of_api_Hash.id : Nat := 87
abbrev runtime_boundsError_Error.id : Nat := 88
abbrev runtime_boundsError_RuntimeError.id : Nat := 89
abbrev runtime_errorString_Error.id : Nat := 90
abbrev runtime_errorString_RuntimeError.id : Nat := 91
abbrev runtime_plainError_Error.id : Nat := 92
abbrev runtime_plainError_RuntimeError.id : Nat := 93
abbrev runtime_errorAddressString_Error.id : Nat := 94
abbrev runtime_errorAddressString_RuntimeError.id : Nat := 95
abbrev runtime_TypeAssertionError_Error.id : Nat := 96
abbrev runtime_TypeAssertionError_RuntimeError.id : Nat := 97
abbrev runtime_PanicNilError_Error.id : Nat := 98
abbrev runtime_PanicNilError_RuntimeError.id : Nat := 99
abbrev abi_Type_Align.id : Nat := 100
abbrev runtime_maps_unhashableTypeError_Error.id : Nat := 101
abbrev runtime_maps_unhashableTypeError_RuntimeError.id : Nat := 102
abbrev api_Errno_Error.id : Nat := 103
abbrev abi_Kind_String.id : Nat := 104
abbrev var_s_door_gosem_cut_vars_holds_initialisers_alone_see_the_manifest_s_row_cutvarsword_look_11_test_files_too.id : Nat := 105
abbrev var_s_door_bits_deBruijn64tab_is_laid_by_its_own_initialiser_plain_data_look_11.id : Nat := 106
abbrev var_s_door_the_look_of_gosem_cut_vars_went_over_the_folder_that_the_caller_named_as_the_repository_s_root_look_11.id : Nat := 107
abbrev gosem_cut_vars.id : Nat := 108
theorem main_main.at_ : Tryd.prog.funcs[(0 : Nat)]? = some Tryd.f0 := Tryd.func0
theorem gosem_cut.at_ : Tryd.prog.funcs[(1 : Nat)]? = some Tryd.f1 := Tryd.func1
theorem gosem_cut_init.at_ : Tryd.prog.funcs[(2 : Nat)]? = some Tryd.f2 := Tryd.func2
theorem law10_DagBefore.at_ : Tryd.prog.funcs[(3 : Nat)]? = some Tryd.f3 := Tryd.func3
theorem law10_DagParts.at_ : Tryd.prog.funcs[(4 : Nat)]? = some Tryd.f4 := Tryd.func4
theorem law10_DagPlays.at_ : Tryd.prog.funcs[(5 : Nat)]? = some Tryd.f5 := Tryd.func5
theorem law10_DagApart.at_ : Tryd.prog.funcs[(6 : Nat)]? = some Tryd.f6 := Tryd.func6
theorem law10_DagNil.at_ : Tryd.prog.funcs[(7 : Nat)]? = some Tryd.f7 := Tryd.func7
theorem law10_few.at_ : Tryd.prog.funcs[(8 : Nat)]? = some Tryd.f8 := Tryd.func8
theorem law10_known.at_ : Tryd.prog.funcs[(9 : Nat)]? = some Tryd.f9 := Tryd.func9
theorem law10_begin.at_ : Tryd.prog.funcs[(10 : Nat)]? = some Tryd.f10 := Tryd.func10
theorem ref10_Graph_Past.at_ : Tryd.prog.funcs[(11 : Nat)]? = some Tryd.f11 := Tryd.func11
theorem dag_Graph_Before.at_ : Tryd.prog.funcs[(12 : Nat)]? = some Tryd.f12 := Tryd.func12
theorem ref10_In.at_ : Tryd.prog.funcs[(13 : Nat)]? = some Tryd.f13 := Tryd.func13
theorem ref10_Equal.at_ : Tryd.prog.funcs[(14 : Nat)]? = some Tryd.f14 := Tryd.func14
theorem dag_Graph_Past.at_ : Tryd.prog.funcs[(15 : Nat)]? = some Tryd.f15 := Tryd.func15
theorem dag_Graph_Future.at_ : Tryd.prog.funcs[(16 : Nat)]? = some Tryd.f16 := Tryd.func16
theorem dag_Graph_Anticone.at_ : Tryd.prog.funcs[(17 : Nat)]? = some Tryd.f17 := Tryd.func17
theorem dag_Graph_Len.at_ : Tryd.prog.funcs[(18 : Nat)]? = some Tryd.f18 := Tryd.func18
theorem ref10_Sorted.at_ : Tryd.prog.funcs[(19 : Nat)]? = some Tryd.f19 := Tryd.func19
theorem law10_same.at_ : Tryd.prog.funcs[(20 : Nat)]? = some Tryd.f20 := Tryd.func20
theorem law10_looks.at_ : Tryd.prog.funcs[(21 : Nat)]? = some Tryd.f21 := Tryd.func21
theorem dag_Graph_Copy.at_ : Tryd.prog.funcs[(22 : Nat)]? = some Tryd.f22 := Tryd.func22
theorem dag_Graph_Add.at_ : Tryd.prog.funcs[(23 : Nat)]? = some Tryd.f23 := Tryd.func23
theorem ref10_Graph_Add.at_ : Tryd.prog.funcs[(24 : Nat)]? = some Tryd.f24 := Tryd.func24
theorem dag_Graph_All.at_ : Tryd.prog.funcs[(25 : Nat)]? = some Tryd.f25 := Tryd.func25
theorem dag_Graph_Parents.at_ : Tryd.prog.funcs[(26 : Nat)]? = some Tryd.f26 := Tryd.func26
theorem dag_Graph_Children.at_ : Tryd.prog.funcs[(27 : Nat)]? = some Tryd.f27 := Tryd.func27
theorem dag_Graph_Has.at_ : Tryd.prog.funcs[(28 : Nat)]? = some Tryd.f28 := Tryd.func28
theorem dag_Graph_Root.at_ : Tryd.prog.funcs[(29 : Nat)]? = some Tryd.f29 := Tryd.func29
theorem dag_Graph_Tips.at_ : Tryd.prog.funcs[(30 : Nat)]? = some Tryd.f30 := Tryd.func30
theorem dag_New.at_ : Tryd.prog.funcs[(31 : Nat)]? = some Tryd.f31 := Tryd.func31
theorem ref10_Graph_At.at_ : Tryd.prog.funcs[(32 : Nat)]? = some Tryd.f32 := Tryd.func32
theorem dag_Graph_find.at_ : Tryd.prog.funcs[(33 : Nat)]? = some Tryd.f33 := Tryd.func33
theorem dag_row_has.at_ : Tryd.prog.funcs[(34 : Nat)]? = some Tryd.f34 := Tryd.func34
theorem dag_row_or.at_ : Tryd.prog.funcs[(35 : Nat)]? = some Tryd.f35 := Tryd.func35
theorem dag_row_all.at_ : Tryd.prog.funcs[(36 : Nat)]? = some Tryd.f36 := Tryd.func36
theorem dag_Sorted.at_ : Tryd.prog.funcs[(37 : Nat)]? = some Tryd.f37 := Tryd.func37
theorem dag_Graph_pick.at_ : Tryd.prog.funcs[(38 : Nat)]? = some Tryd.f38 := Tryd.func38
theorem dag_Graph_Future_fn1.at_ : Tryd.prog.funcs[(39 : Nat)]? = some Tryd.f39 := Tryd.func39
theorem dag_Graph_Anticone_fn1.at_ : Tryd.prog.funcs[(40 : Nat)]? = some Tryd.f40 := Tryd.func40
theorem dag_Graph_there.at_ : Tryd.prog.funcs[(41 : Nat)]? = some Tryd.f41 := Tryd.func41
theorem ref10_Compare.at_ : Tryd.prog.funcs[(42 : Nat)]? = some Tryd.f42 := Tryd.func42
theorem ref10_Graph_Tips.at_ : Tryd.prog.funcs[(43 : Nat)]? = some Tryd.f43 := Tryd.func43
theorem ref10_Graph_Children.at_ : Tryd.prog.funcs[(44 : Nat)]? = some Tryd.f44 := Tryd.func44
theorem ref10_Graph_Future.at_ : Tryd.prog.funcs[(45 : Nat)]? = some Tryd.f45 := Tryd.func45
theorem ref10_Graph_Anticone.at_ : Tryd.prog.funcs[(46 : Nat)]? = some Tryd.f46 := Tryd.func46
theorem maps_Clone_of_int.at_ : Tryd.prog.funcs[(47 : Nat)]? = some Tryd.f47 := Tryd.func47
theorem slices_Clone_of_api_Hash.at_ : Tryd.prog.funcs[(48 : Nat)]? = some Tryd.f48 := Tryd.func48
theorem slices_ContainsFunc_of_api_Hash.at_ : Tryd.prog.funcs[(49 : Nat)]? = some Tryd.f49 := Tryd.func49
theorem dag_Graph_Add_fn1.at_ : Tryd.prog.funcs[(50 : Nat)]? = some Tryd.f50 := Tryd.func50
theorem dag_row_with.at_ : Tryd.prog.funcs[(51 : Nat)]? = some Tryd.f51 := Tryd.func51
theorem dag_Graph_All_fn1.at_ : Tryd.prog.funcs[(52 : Nat)]? = some Tryd.f52 := Tryd.func52
theorem dag_Graph_Tips_fn1.at_ : Tryd.prog.funcs[(53 : Nat)]? = some Tryd.f53 := Tryd.func53
theorem dag_row_all_fn1.at_ : Tryd.prog.funcs[(54 : Nat)]? = some Tryd.f54 := Tryd.func54
theorem bits_TrailingZeros64.at_ : Tryd.prog.funcs[(55 : Nat)]? = some Tryd.f55 := Tryd.func55
theorem slices_Compact_of_api_Hash.at_ : Tryd.prog.funcs[(56 : Nat)]? = some Tryd.f56 := Tryd.func56
theorem slices_SortedFunc_of_api_Hash.at_ : Tryd.prog.funcs[(57 : Nat)]? = some Tryd.f57 := Tryd.func57
theorem slices_Values_of_api_Hash.at_ : Tryd.prog.funcs[(58 : Nat)]? = some Tryd.f58 := Tryd.func58
theorem dag_Compare.at_ : Tryd.prog.funcs[(59 : Nat)]? = some Tryd.f59 := Tryd.func59
theorem ref10_Graph_Before.at_ : Tryd.prog.funcs[(60 : Nat)]? = some Tryd.f60 := Tryd.func60
theorem ref10_Graph_Apart.at_ : Tryd.prog.funcs[(61 : Nat)]? = some Tryd.f61 := Tryd.func61
theorem maps_clone.at_ : Tryd.prog.funcs[(62 : Nat)]? = some Tryd.f62 := Tryd.func62
theorem slices_IndexFunc_of_api_Hash.at_ : Tryd.prog.funcs[(63 : Nat)]? = some Tryd.f63 := Tryd.func63
theorem slices_Collect_of_api_Hash.at_ : Tryd.prog.funcs[(64 : Nat)]? = some Tryd.f64 := Tryd.func64
theorem slices_SortFunc_of_api_Hash.at_ : Tryd.prog.funcs[(65 : Nat)]? = some Tryd.f65 := Tryd.func65
theorem slices_Values_of_api_Hash_fn1.at_ : Tryd.prog.funcs[(66 : Nat)]? = some Tryd.f66 := Tryd.func66
theorem bytes_Compare.at_ : Tryd.prog.funcs[(67 : Nat)]? = some Tryd.f67 := Tryd.func67
theorem slices_AppendSeq_of_api_Hash.at_ : Tryd.prog.funcs[(68 : Nat)]? = some Tryd.f68 := Tryd.func68
theorem slices_pdqsortCmpFunc_of_api_Hash.at_ : Tryd.prog.funcs[(69 : Nat)]? = some Tryd.f69 := Tryd.func69
theorem bits_Len.at_ : Tryd.prog.funcs[(70 : Nat)]? = some Tryd.f70 := Tryd.func70
theorem bytealg_Compare.at_ : Tryd.prog.funcs[(71 : Nat)]? = some Tryd.f71 := Tryd.func71
theorem slices_insertionSortCmpFunc_of_api_Hash.at_ : Tryd.prog.funcs[(72 : Nat)]? = some Tryd.f72 := Tryd.func72
theorem slices_heapSortCmpFunc_of_api_Hash.at_ : Tryd.prog.funcs[(73 : Nat)]? = some Tryd.f73 := Tryd.func73
theorem slices_breakPatternsCmpFunc_of_api_Hash.at_ : Tryd.prog.funcs[(74 : Nat)]? = some Tryd.f74 := Tryd.func74
theorem slices_choosePivotCmpFunc_of_api_Hash.at_ : Tryd.prog.funcs[(75 : Nat)]? = some Tryd.f75 := Tryd.func75
theorem slices_reverseRangeCmpFunc_of_api_Hash.at_ : Tryd.prog.funcs[(76 : Nat)]? = some Tryd.f76 := Tryd.func76
theorem slices_partialInsertionSortCmpFunc_of_api_Hash.at_ : Tryd.prog.funcs[(77 : Nat)]? = some Tryd.f77 := Tryd.func77
theorem slices_partitionEqualCmpFunc_of_api_Hash.at_ : Tryd.prog.funcs[(78 : Nat)]? = some Tryd.f78 := Tryd.func78
theorem slices_partitionCmpFunc_of_api_Hash.at_ : Tryd.prog.funcs[(79 : Nat)]? = some Tryd.f79 := Tryd.func79
theorem bits_Len32.at_ : Tryd.prog.funcs[(80 : Nat)]? = some Tryd.f80 := Tryd.func80
theorem bits_Len64.at_ : Tryd.prog.funcs[(81 : Nat)]? = some Tryd.f81 := Tryd.func81
theorem slices_siftDownCmpFunc_of_api_Hash.at_ : Tryd.prog.funcs[(82 : Nat)]? = some Tryd.f82 := Tryd.func82
theorem slices_nextPowerOfTwo.at_ : Tryd.prog.funcs[(83 : Nat)]? = some Tryd.f83 := Tryd.func83
theorem slices_xorshift_Next.at_ : Tryd.prog.funcs[(84 : Nat)]? = some Tryd.f84 := Tryd.func84
theorem slices_medianAdjacentCmpFunc_of_api_Hash.at_ : Tryd.prog.funcs[(85 : Nat)]? = some Tryd.f85 := Tryd.func85
theorem slices_medianCmpFunc_of_api_Hash.at_ : Tryd.prog.funcs[(86 : Nat)]? = some Tryd.f86 := Tryd.func86
theorem slices_order2CmpFunc_of_api_Hash.at_ : Tryd.prog.funcs[(87 : Nat)]? = some Tryd.f87 := Tryd.func87
theorem runtime_boundsError_Error.at_ : Tryd.prog.funcs[(88 : Nat)]? = some Tryd.f88 := Tryd.func88
theorem runtime_boundsError_RuntimeError.at_ : Tryd.prog.funcs[(89 : Nat)]? = some Tryd.f89 := Tryd.func89
theorem runtime_errorString_Error.at_ : Tryd.prog.funcs[(90 : Nat)]? = some Tryd.f90 := Tryd.func90
theorem runtime_errorString_RuntimeError.at_ : Tryd.prog.funcs[(91 : Nat)]? = some Tryd.f91 := Tryd.func91
theorem runtime_plainError_Error.at_ : Tryd.prog.funcs[(92 : Nat)]? = some Tryd.f92 := Tryd.func92
theorem runtime_plainError_RuntimeError.at_ : Tryd.prog.funcs[(93 : Nat)]? = some Tryd.f93 := Tryd.func93
theorem runtime_errorAddressString_Error.at_ : Tryd.prog.funcs[(94 : Nat)]? = some Tryd.f94 := Tryd.func94
theorem runtime_errorAddressString_RuntimeError.at_ : Tryd.prog.funcs[(95 : Nat)]? = some Tryd.f95 := Tryd.func95
theorem runtime_TypeAssertionError_Error.at_ : Tryd.prog.funcs[(96 : Nat)]? = some Tryd.f96 := Tryd.func96
theorem runtime_TypeAssertionError_RuntimeError.at_ : Tryd.prog.funcs[(97 : Nat)]? = some Tryd.f97 := Tryd.func97
theorem runtime_PanicNilError_Error.at_ : Tryd.prog.funcs[(98 : Nat)]? = some Tryd.f98 := Tryd.func98
theorem runtime_PanicNilError_RuntimeError.at_ : Tryd.prog.funcs[(99 : Nat)]? = some Tryd.f99 := Tryd.func99
theorem abi_Type_Align.at_ : Tryd.prog.funcs[(100 : Nat)]? = some Tryd.f100 := Tryd.func100
theorem runtime_maps_unhashableTypeError_Error.at_ : Tryd.prog.funcs[(101 : Nat)]? = some Tryd.f101 := Tryd.func101
theorem runtime_maps_unhashableTypeError_RuntimeError.at_ : Tryd.prog.funcs[(102 : Nat)]? = some Tryd.f102 := Tryd.func102
theorem api_Errno_Error.at_ : Tryd.prog.funcs[(103 : Nat)]? = some Tryd.f103 := Tryd.func103
theorem abi_Kind_String.at_ : Tryd.prog.funcs[(104 : Nat)]? = some Tryd.f104 := Tryd.func104
theorem var_s_door_gosem_cut_vars_holds_initialisers_alone_see_the_manifest_s_row_cutvarsword_look_11_test_files_too.at_ : Tryd.prog.funcs[(105 : Nat)]? = some Tryd.f105 := Tryd.func105
theorem var_s_door_bits_deBruijn64tab_is_laid_by_its_own_initialiser_plain_data_look_11.at_ : Tryd.prog.funcs[(106 : Nat)]? = some Tryd.f106 := Tryd.func106
theorem var_s_door_the_look_of_gosem_cut_vars_went_over_the_folder_that_the_caller_named_as_the_repository_s_root_look_11.at_ : Tryd.prog.funcs[(107 : Nat)]? = some Tryd.f107 := Tryd.func107
theorem gosem_cut_vars.at_ : Tryd.prog.funcs[(108 : Nat)]? = some Tryd.f108 := Tryd.func108
theorem ng : NG Tryd.prog := by
  have h : (Tryd.prog.funcs.toList.all fun f => !(f.name == "runtime.NumGoroutine")) = true := by kernel_rfl
  intro g fn hf
  rw [List.all_eq_true] at h
  have := h fn (by simpa using Array.mem_of_getElem? hf)
  simpa using this
theorem mix : Tryd.prog.follows .mixedOrders = true := by kernel_rfl
/-! ### 13: plexus/plexusref10.In -/
def ref10_In.k : List Nat := []
def ref10_In.q1 (K : Value → World → Prop) : Post := (blockQ 0 (uses (sR (sR (body Tryd.f13))) ++ (resSlots Tryd.f13)) (thenQ (fun ρ_ w_ => match cutAt ref10_In.k (sR (sR (body Tryd.f13))) with | true => Holds none [] Tryd.prog 18 (sR (sR (body Tryd.f13))) (funQ Tryd.prog Tryd.f13 K) ρ_ w_ | false => codeW none [] Tryd.prog 18 ref10_In.k (sR (sR (body Tryd.f13))) (resSlots Tryd.f13) (funQ Tryd.prog Tryd.f13 K) ρ_ w_) (funQ Tryd.prog Tryd.f13 K)))
def ref10_In.e1 (A_l4 : Option Addr) (n_l4 : Nat) (c_l4 : Nat) (h5 : Addr) (s : Bool × Int) : Env := [(0, .slice A_l4 n_l4 c_l4), (3, .pointer (some h5)), (4, .bool s.1), (5, .int .i64 s.2)]
def ref10_In.u1 : List Nat := [0, 3, 4, 5]
def ref10_In.W (A_l1 : Option Addr) (n_l1 : Nat) (c_l1 : Nat) (h2 : Array Value) (K : Value → World → Prop) (w : World) : Prop :=
  let w_3 : World := w.alloc (.cells h2 23); Holds none [] Tryd.prog 18 (.loop (lB (bB (sR (sL (sR (body Tryd.f13))))))) (ref10_In.q1 K) [(0, .slice A_l1 n_l1 c_l1), (3, .pointer (some (⟨w.heap.size, 0, none⟩ : Addr))), (4, .bool false), (5, .int .i64 0)] w_3
theorem ref10_In.s (A_l1 : Option Addr) (n_l1 : Nat) (c_l1 : Nat) (h2 : Array Value) (K : Value → World → Prop) (w : World) : (codeW none [] Tryd.prog Tryd.f13.ntmps ref10_In.k (body Tryd.f13) (resSlots Tryd.f13) (funQ Tryd.prog Tryd.f13 K) (argEnv [.slice A_l1 n_l1 c_l1, .agg h2] 0) w) = ref10_In.W A_l1 n_l1 c_l1 h2 K w := by kernel_rfl
theorem ref10_In.of {A_l1 : Option Addr} {n_l1 : Nat} {c_l1 : Nat} {h2 : Array Value} {K : Value → World → Prop} {w : World} (h : ref10_In.W A_l1 n_l1 c_l1 h2 K w) : Ret Tryd.prog 13 #[.slice A_l1 n_l1 c_l1, .agg h2] w K :=
  ret_of_eq (C := ref10_In.k) (fn := Tryd.f13) (c := body Tryd.f13) ng mix Tryd.func13 (by kernel_rfl) (by kernel_rfl) (ref10_In.s A_l1 n_l1 c_l1 h2 K w) h
def ref10_In.B1 (A_l4 : Option Addr) (n_l4 : Nat) (c_l4 : Nat) (h5 : Addr) (t46 : Bool) (i7 : Int) (Q : Post) (w : World) : Prop :=
  Split (decide (i7 < (n_l4 : Int))) (let w_8 : World := w.drew; (0 ≤ i7 ∧ i7 < (n_l4 : Int)) ∧ Is A_l4 fun a9 : Addr => ∃ t1510 : Array Value, (t1510.size = 32 ∧ Cells w_8 (a9.add (i7.toNat * 32)) t1510) ∧ ∃ t1611 : Array Value, (t1611.size = 32 ∧ Cells w_8 h5 t1611) ∧ (isInts .u8 32 t1510 ∧ isInts .u8 32 t1611) ∧ Split (sameInts t1510 t1611) (Q .ret [(0, .slice A_l4 n_l4 c_l4), (3, .pointer (some h5)), (4, .bool true), (5, .int .i64 i7)] w_8) (Q .normal [(0, .slice A_l4 n_l4 c_l4), (3, .pointer (some h5)), (4, .bool t46), (5, .int .i64 (IntKind.i64.wrap (i7 + (1 : Int))))] w_8)) (Q (.exit 0) [(0, .slice A_l4 n_l4 c_l4), (3, .pointer (some h5)), (4, .bool t46), (5, .int .i64 i7)] w)
theorem ref10_In.b1 (A_l4 : Option Addr) (n_l4 : Nat) (c_l4 : Nat) (h5 : Addr) (t46 : Bool) (i7 : Int) (Q : Post) (w : World) : (codeW none [] Tryd.prog 18 ref10_In.k (lB (bB (sR (sL (sR (body Tryd.f13)))))) ref10_In.u1 Q [(0, .slice A_l4 n_l4 c_l4), (3, .pointer (some h5)), (4, .bool t46), (5, .int .i64 i7)] w) = ref10_In.B1 A_l4 n_l4 c_l4 h5 t46 i7 Q w := by kernel_rfl
theorem ref10_In.loop1 {A_l4 : Option Addr} {n_l4 : Nat} {c_l4 : Nat} {h5 : Addr} (I : Bool × Int → World → Prop) (μ : Bool × Int → World → Nat) (s : Bool × Int) {Q : Post} {w : World} (h0 : I s w)
    (round : ∀ s w, I s w → ref10_In.B1 A_l4 n_l4 c_l4 h5 (s.1) (s.2) (roundQ (ref10_In.e1 A_l4 n_l4 c_l4 h5) I μ s w Q) w) : Holds none [] Tryd.prog 18 (.loop (lB (bB (sR (sL (sR (body Tryd.f13))))))) Q (ref10_In.e1 A_l4 n_l4 c_l4 h5 s) w :=
  loop_of_eq ng mix (ref10_In.e1 A_l4 n_l4 c_l4 h5) I μ ref10_In.k ref10_In.u1 s (fun s Q w => ref10_In.B1 A_l4 n_l4 c_l4 h5 (s.1) (s.2) Q w) (fun s Q w => ref10_In.b1 A_l4 n_l4 c_l4 h5 (s.1) (s.2) Q w) h0 round
def ref10_In.X1_0 (A_l12 : Option Addr) (n_l12 : Nat) (c_l12 : Nat) (h13 : Addr) (t414 : Bool) (i15 : Int) (K : Value → World → Prop) (w : World) : Prop :=
  K (.bool false) w
theorem ref10_In.x1_0 (A_l12 : Option Addr) (n_l12 : Nat) (c_l12 : Nat) (h13 : Addr) (t414 : Bool) (i15 : Int) (K : Value → World → Prop) (w : World) : (ref10_In.q1 K (.exit 0) [(0, .slice A_l12 n_l12 c_l12), (3, .pointer (some h13)), (4, .bool t414), (5, .int .i64 i15)] w) = ref10_In.X1_0 A_l12 n_l12 c_l12 h13 t414 i15 K w := by kernel_rfl
/-! ### 14: plexus/plexusref10.Equal -/
def ref10_Equal.k : List Nat := []
def ref10_Equal.q1 (K : Value → World → Prop) : Post := (blockQ 0 (uses (sR (sR (sR (body Tryd.f14)))) ++ (resSlots Tryd.f14)) (thenQ (fun ρ_ w_ => match cutAt ref10_Equal.k (sR (sR (sR (body Tryd.f14)))) with | true => Holds none [] Tryd.prog 26 (sR (sR (sR (body Tryd.f14)))) (funQ Tryd.prog Tryd.f14 K) ρ_ w_ | false => codeW none [] Tryd.prog 26 ref10_Equal.k (sR (sR (sR (body Tryd.f14)))) (resSlots Tryd.f14) (funQ Tryd.prog Tryd.f14 K) ρ_ w_) (funQ Tryd.prog Tryd.f14 K)))
def ref10_Equal.e1 (A_a3 : Option Addr) (n_a3 : Nat) (c_a3 : Nat) (A_b4 : Option Addr) (n_b4 : Nat) (c_b4 : Nat) (s : Bool × Int) : Env := [(0, .slice A_a3 n_a3 c_a3), (1, .slice A_b4 n_b4 c_b4), (4, .bool s.1), (5, .int .i64 s.2)]
def ref10_Equal.u1 : List Nat := [0, 1, 4, 5]
def ref10_Equal.W (A_a1 : Option Addr) (n_a1 : Nat) (c_a1 : Nat) (A_b2 : Option Addr) (n_b2 : Nat) (c_b2 : Nat) (K : Value → World → Prop) (w : World) : Prop :=
  Split ((n_a1 : Int) != (n_b2 : Int)) (K (.bool false) w) (Holds none [] Tryd.prog 26 (.loop (lB (bB (sR (sL (sR (sR (body Tryd.f14)))))))) (ref10_Equal.q1 K) [(0, .slice A_a1 n_a1 c_a1), (1, .slice A_b2 n_b2 c_b2), (4, .bool false), (5, .int .i64 0)] w)
theorem ref10_Equal.s (A_a1 : Option Addr) (n_a1 : Nat) (c_a1 : Nat) (A_b2 : Option Addr) (n_b2 : Nat) (c_b2 : Nat) (K : Value → World → Prop) (w : World) : (codeW none [] Tryd.prog Tryd.f14.ntmps ref10_Equal.k (body Tryd.f14) (resSlots Tryd.f14) (funQ Tryd.prog Tryd.f14 K) (argEnv [.slice A_a1 n_a1 c_a1, .slice A_b2 n_b2 c_b2] 0) w) = ref10_Equal.W A_a1 n_a1 c_a1 A_b2 n_b2 c_b2 K w := by kernel_rfl
theorem ref10_Equal.of {A_a1 : Option Addr} {n_a1 : Nat} {c_a1 : Nat} {A_b2 : Option Addr} {n_b2 : Nat} {c_b2 : Nat} {K : Value → World → Prop} {w : World} (h : ref10_Equal.W A_a1 n_a1 c_a1 A_b2 n_b2 c_b2 K w) : Ret Tryd.prog 14 #[.slice A_a1 n_a1 c_a1, .slice A_b2 n_b2 c_b2] w K :=
  ret_of_eq (C := ref10_Equal.k) (fn := Tryd.f14) (c := body Tryd.f14) ng mix Tryd.func14 (by kernel_rfl) (by kernel_rfl) (ref10_Equal.s A_a1 n_a1 c_a1 A_b2 n_b2 c_b2 K w) h
def ref10_Equal.B1 (A_a3 : Option Addr) (n_a3 : Nat) (c_a3 : Nat) (A_b4 : Option Addr) (n_b4 : Nat) (c_b4 : Nat) (t45 : Bool) (i6 : Int) (Q : Post) (w : World) : Prop :=
  Split (decide (i6 < (n_a3 : Int))) (let w_7 : World := w.drew; (0 ≤ i6 ∧ i6 < (n_a3 : Int)) ∧ Is A_a3 fun a8 : Addr => ∃ t209 : Array Value, (t209.size = 32 ∧ Cells w_7 (a8.add (i6.toNat * 32)) t209) ∧ (0 ≤ i6 ∧ i6 < (n_b4 : Int)) ∧ Is A_b4 fun a10 : Addr => ∃ t2411 : Array Value, (t2411.size = 32 ∧ Cells w_7 (a10.add (i6.toNat * 32)) t2411) ∧ (isInts .u8 32 t209 ∧ isInts .u8 32 t2411) ∧ Split (!(sameInts t209 t2411)) (Q .ret [(0, .slice A_a3 n_a3 c_a3), (1, .slice A_b4 n_b4 c_b4), (4, .bool false), (5, .int .i64 i6)] w_7) (Q .normal [(0, .slice A_a3 n_a3 c_a3), (1, .slice A_b4 n_b4 c_b4), (4, .bool t45), (5, .int .i64 (IntKind.i64.wrap (i6 + (1 : Int))))] w_7)) (Q (.exit 0) [(0, .slice A_a3 n_a3 c_a3), (1, .slice A_b4 n_b4 c_b4), (4, .bool t45), (5, .int .i64 i6)] w)
theorem ref10_Equal.b1 (A_a3 : Option Addr) (n_a3 : Nat) (c_a3 : Nat) (A_b4 : Option Addr) (n_b4 : Nat) (c_b4 : Nat) (t45 : Bool) (i6 : Int) (Q : Post) (w : World) : (codeW none [] Tryd.prog 26 ref10_Equal.k (lB (bB (sR (sL (sR (sR (body Tryd.f14))))))) ref10_Equal.u1 Q [(0, .slice A_a3 n_a3 c_a3), (1, .slice A_b4 n_b4 c_b4), (4, .bool t45), (5, .int .i64 i6)] w) = ref10_Equal.B1 A_a3 n_a3 c_a3 A_b4 n_b4 c_b4 t45 i6 Q w := by kernel_rfl
theorem ref10_Equal.loop1 {A_a3 : Option Addr} {n_a3 : Nat} {c_a3 : Nat} {A_b4 : Option Addr} {n_b4 : Nat} {c_b4 : Nat} (I : Bool × Int → World → Prop) (μ : Bool × Int → World → Nat) (s : Bool × Int) {Q : Post} {w : World} (h0 : I s w)
    (round : ∀ s w, I s w → ref10_Equal.B1 A_a3 n_a3 c_a3 A_b4 n_b4 c_b4 (s.1) (s.2) (roundQ (ref10_Equal.e1 A_a3 n_a3 c_a3 A_b4 n_b4 c_b4) I μ s w Q) w) : Holds none [] Tryd.prog 26 (.loop (lB (bB (sR (sL (sR (sR (body Tryd.f14)))))))) Q (ref10_Equal.e1 A_a3 n_a3 c_a3 A_b4 n_b4 c_b4 s) w :=
  loop_of_eq ng mix (ref10_Equal.e1 A_a3 n_a3 c_a3 A_b4 n_b4 c_b4) I μ ref10_Equal.k ref10_Equal.u1 s (fun s Q w => ref10_Equal.B1 A_a3 n_a3 c_a3 A_b4 n_b4 c_b4 (s.1) (s.2) Q w) (fun s Q w => ref10_Equal.b1 A_a3 n_a3 c_a3 A_b4 n_b4 c_b4 (s.1) (s.2) Q w) h0 round
def ref10_Equal.X1_0 (A_a12 : Option Addr) (n_a12 : Nat) (c_a12 : Nat) (A_b13 : Option Addr) (n_b13 : Nat) (c_b13 : Nat) (t414 : Bool) (i15 : Int) (K : Value → World → Prop) (w : World) : Prop :=
  K (.bool true) w
theorem ref10_Equal.x1_0 (A_a12 : Option Addr) (n_a12 : Nat) (c_a12 : Nat) (A_b13 : Option Addr) (n_b13 : Nat) (c_b13 : Nat) (t414 : Bool) (i15 : Int) (K : Value → World → Prop) (w : World) : (ref10_Equal.q1 K (.exit 0) [(0, .slice A_a12 n_a12 c_a12), (1, .slice A_b13 n_b13 c_b13), (4, .bool t414), (5, .int .i64 i15)] w) = ref10_Equal.X1_0 A_a12 n_a12 c_a12 A_b13 n_b13 c_b13 t414 i15 K w := by kernel_rfl
/-! ### 19: plexus/plexusref10.Sorted -/
def ref10_Sorted.k : List Nat := []
def ref10_Sorted.q1 (K : Value → World → Prop) : Post := (blockQ 0 (uses (sR (sR (sR (body Tryd.f19)))) ++ (resSlots Tryd.f19)) (thenQ (fun ρ_ w_ => match cutAt ref10_Sorted.k (sR (sR (sR (body Tryd.f19)))) with | true => Holds none [] Tryd.prog 56 (sR (sR (sR (body Tryd.f19)))) (funQ Tryd.prog Tryd.f19 K) ρ_ w_ | false => codeW none [] Tryd.prog 56 ref10_Sorted.k (sR (sR (sR (body Tryd.f19)))) (resSlots Tryd.f19) (funQ Tryd.prog Tryd.f19 K) ρ_ w_) (funQ Tryd.prog Tryd.f19 K)))
def ref10_Sorted.e1 (A_l2 : Option Addr) (n_l2 : Nat) (c_l2 : Nat) (A_t23 : Option Addr) (n_t23 : Nat) (c_t23 : Nat) (s : (Option Addr) × Nat × Nat × Int) : Env := [(0, .slice A_l2 n_l2 c_l2), (2, .slice A_t23 n_t23 c_t23), (3, .slice s.1 s.2.1 s.2.2.1), (4, .int .i64 s.2.2.2)]
def ref10_Sorted.u1 : List Nat := [0, 2, 3, 4]
def ref10_Sorted.q2 (Q : Post) : Post := (blockQ 2 (uses (sR (sR (sR (bB (sL (sR (lB (bB (sR (sL (sR (sR (body Tryd.f19))))))))))))) ++ (uses (sR (sR (lB (bB (sR (sL (sR (sR (body Tryd.f19))))))))) ++ ref10_Sorted.u1)) (thenQ (fun ρ_ w_ => match cutAt ref10_Sorted.k (sR (sR (sR (bB (sL (sR (lB (bB (sR (sL (sR (sR (body Tryd.f19))))))))))))) with | true => Holds none [] Tryd.prog 56 (sR (sR (sR (bB (sL (sR (lB (bB (sR (sL (sR (sR (body Tryd.f19))))))))))))) (blockQ 1 (uses (sR (sR (lB (bB (sR (sL (sR (sR (body Tryd.f19))))))))) ++ ref10_Sorted.u1) (thenQ (fun ρ_ w_ => match cutAt ref10_Sorted.k (sR (sR (lB (bB (sR (sL (sR (sR (body Tryd.f19))))))))) with | true => Holds none [] Tryd.prog 56 (sR (sR (lB (bB (sR (sL (sR (sR (body Tryd.f19))))))))) Q ρ_ w_ | false => codeW none [] Tryd.prog 56 ref10_Sorted.k (sR (sR (lB (bB (sR (sL (sR (sR (body Tryd.f19))))))))) ref10_Sorted.u1 Q ρ_ w_) Q)) ρ_ w_ | false => codeW none [] Tryd.prog 56 ref10_Sorted.k (sR (sR (sR (bB (sL (sR (lB (bB (sR (sL (sR (sR (body Tryd.f19))))))))))))) (uses (sR (sR (lB (bB (sR (sL (sR (sR (body Tryd.f19))))))))) ++ ref10_Sorted.u1) (blockQ 1 (uses (sR (sR (lB (bB (sR (sL (sR (sR (body Tryd.f19))))))))) ++ ref10_Sorted.u1) (thenQ (fun ρ_ w_ => match cutAt ref10_Sorted.k (sR (sR (lB (bB (sR (sL (sR (sR (body Tryd.f19))))))))) with | true => Holds none [] Tryd.prog 56 (sR (sR (lB (bB (sR (sL (sR (sR (body Tryd.f19))))))))) Q ρ_ w_ | false => codeW none [] Tryd.prog 56 ref10_Sorted.k (sR (sR (lB (bB (sR (sL (sR (sR (body Tryd.f19))))))))) ref10_Sorted.u1 Q ρ_ w_) Q)) ρ_ w_) (blockQ 1 (uses (sR (sR (lB (bB (sR (sL (sR (sR (body Tryd.f19))))))))) ++ ref10_Sorted.u1) (thenQ (fun ρ_ w_ => match cutAt ref10_Sorted.k (sR (sR (lB (bB (sR (sL (sR (sR (body Tryd.f19))))))))) with | true => Holds none [] Tryd.prog 56 (sR (sR (lB (bB (sR (sL (sR (sR (body Tryd.f19))))))))) Q ρ_ w_ | false => codeW none [] Tryd.prog 56 ref10_Sorted.k (sR (sR (lB (bB (sR (sL (sR (sR (body Tryd.f19))))))))) ref10_Sorted.u1 Q ρ_ w_) Q))))
def ref10_Sorted.e2 (A_l15 : Option Addr) (n_l15 : Nat) (c_l15 : Nat) (A_t216 : Option Addr) (n_t216 : Nat) (c_t216 : Nat) (A_out17 : Option Addr) (n_out17 : Nat) (c_out17 : Nat) (i18 : Int) (s : Int) : Env := [(0, .slice A_l15 n_l15 c_l15), (2, .slice A_t216 n_t216 c_t216), (3, .slice A_out17 n_out17 c_out17), (4, .int .i64 i18), (5, .int .i64 s)]
def ref10_Sorted.u2 : List Nat := [0, 2, 3, 4, 5]
def ref10_Sorted.W (A_l1 : Option Addr) (n_l1 : Nat) (c_l1 : Nat) (K : Value → World → Prop) (w : World) : Prop :=
  Holds none [] Tryd.prog 56 (.loop (lB (bB (sR (sL (sR (sR (body Tryd.f19)))))))) (ref10_Sorted.q1 K) [(0, .slice A_l1 n_l1 c_l1), (2, .slice none 0 0), (3, .slice none 0 0), (4, .int .i64 0)] w
theorem ref10_Sorted.s (A_l1 : Option Addr) (n_l1 : Nat) (c_l1 : Nat) (K : Value → World → Prop) (w : World) : (codeW none [] Tryd.prog Tryd.f19.ntmps ref10_Sorted.k (body Tryd.f19) (resSlots Tryd.f19) (funQ Tryd.prog Tryd.f19 K) (argEnv [.slice A_l1 n_l1 c_l1] 0) w) = ref10_Sorted.W A_l1 n_l1 c_l1 K w := by kernel_rfl
theorem ref10_Sorted.of {A_l1 : Option Addr} {n_l1 : Nat} {c_l1 : Nat} {K : Value → World → Prop} {w : World} (h : ref10_Sorted.W A_l1 n_l1 c_l1 K w) : Ret Tryd.prog 19 #[.slice A_l1 n_l1 c_l1] w K :=
  ret_of_eq (C := ref10_Sorted.k) (fn := Tryd.f19) (c := body Tryd.f19) ng mix Tryd.func19 (by kernel_rfl) (by kernel_rfl) (ref10_Sorted.s A_l1 n_l1 c_l1 K w) h
def ref10_Sorted.B1 (A_l2 : Option Addr) (n_l2 : Nat) (c_l2 : Nat) (A_t23 : Option Addr) (n_t23 : Nat) (c_t23 : Nat) (A_out4 : Option Addr) (n_out4 : Nat) (c_out4 : Nat) (i5 : Int) (Q : Post) (w : World) : Prop :=
  Split (decide (i5 < (n_l2 : Int))) ((0 ≤ i5 ∧ i5 < (n_l2 : Int)) ∧ Is A_l2 fun a6 : Addr => ∃ t177 : Array Value, (t177.size = 32 ∧ Cells w (a6.add (i5.toNat * 32)) t177) ∧ Ret Tryd.prog 13 #[.slice A_out4 n_out4 c_out4, .agg t177] w fun v8 w_9 => ∃ t1810 : Bool, v8 = .bool t1810 ∧ Split t1810 (Q .normal [(0, .slice A_l2 n_l2 c_l2), (2, .slice A_t23 n_t23 c_t23), (3, .slice A_out4 n_out4 c_out4), (4, .int .i64 (IntKind.i64.wrap (i5 + (1 : Int))))] w_9) (Holds none [] Tryd.prog 56 (.loop (lB (bB (sL (sR (sR (bB (sL (sR (lB (bB (sR (sL (sR (sR (body Tryd.f19)))))))))))))))) (ref10_Sorted.q2 Q) [(0, .slice A_l2 n_l2 c_l2), (2, .slice A_t23 n_t23 c_t23), (3, .slice A_out4 n_out4 c_out4), (4, .int .i64 i5), (5, .int .i64 (n_out4 : Int))] w_9)) (Q (.exit 0) [(0, .slice A_l2 n_l2 c_l2), (2, .slice A_t23 n_t23 c_t23), (3, .slice A_out4 n_out4 c_out4), (4, .int .i64 i5)] w)
theorem ref10_Sorted.b1 (A_l2 : Option Addr) (n_l2 : Nat) (c_l2 : Nat) (A_t23 : Option Addr) (n_t23 : Nat) (c_t23 : Nat) (A_out4 : Option Addr) (n_out4 : Nat) (c_out4 : Nat) (i5 : Int) (Q : Post) (w : World) : (codeW none [] Tryd.prog 56 ref10_Sorted.k (lB (bB (sR (sL (sR (sR (body Tryd.f19))))))) ref10_Sorted.u1 Q [(0, .slice A_l2 n_l2 c_l2), (2, .slice A_t23 n_t23 c_t23), (3, .slice A_out4 n_out4 c_out4), (4, .int .i64 i5)] w) = ref10_Sorted.B1 A_l2 n_l2 c_l2 A_t23 n_t23 c_t23 A_out4 n_out4 c_out4 i5 Q w := by kernel_rfl
theorem ref10_Sorted.loop1 {A_l2 : Option Addr} {n_l2 : Nat} {c_l2 : Nat} {A_t23 : Option Addr} {n_t23 : Nat} {c_t23 : Nat} (I : (Option Addr) × Nat × Nat × Int → World → Prop) (μ : (Option Addr) × Nat × Nat × Int → World → Nat) (s : (Option Addr) × Nat × Nat × Int) {Q : Post} {w : World} (h0 : I s w)
    (round : ∀ s w, I s w → ref10_Sorted.B1 A_l2 n_l2 c_l2 A_t23 n_t23 c_t23 (s.1) (s.2.1) (s.2.2.1) (s.2.2.2) (roundQ (ref10_Sorted.e1 A_l2 n_l2 c_l2 A_t23 n_t23 c_t23) I μ s w Q) w) : Holds none [] Tryd.prog 56 (.loop (lB (bB (sR (sL (sR (sR (body Tryd.f19)))))))) Q (ref10_Sorted.e1 A_l2 n_l2 c_l2 A_t23 n_t23 c_t23 s) w :=
  loop_of_eq ng mix (ref10_Sorted.e1 A_l2 n_l2 c_l2 A_t23 n_t23 c_t23) I μ ref10_Sorted.k ref10_Sorted.u1 s (fun s Q w => ref10_Sorted.B1 A_l2 n_l2 c_l2 A_t23 n_t23 c_t23 (s.1) (s.2.1) (s.2.2.1) (s.2.2.2) Q w) (fun s Q w => ref10_Sorted.b1 A_l2 n_l2 c_l2 A_t23 n_t23 c_t23 (s.1) (s.2.1) (s.2.2.1) (s.2.2.2) Q w) h0 round
def ref10_Sorted.X1_0 (A_l11 : Option Addr) (n_l11 : Nat) (c_l11 : Nat) (A_t212 : Option Addr) (n_t212 : Nat) (c_t212 : Nat) (A_out13 : Option Addr) (n_out13 : Nat) (c_out13 : Nat) (i14 : Int) (K : Value → World → Prop) (w : World) : Prop :=
  K (.slice A_out13 n_out13 c_out13) w
theorem ref10_Sorted.x1_0 (A_l11 : Option Addr) (n_l11 : Nat) (c_l11 : Nat) (A_t212 : Option Addr) (n_t212 : Nat) (c_t212 : Nat) (A_out13 : Option Addr) (n_out13 : Nat) (c_out13 : Nat) (i14 : Int) (K : Value → World → Prop) (w : World) : (ref10_Sorted.q1 K (.exit 0) [(0, .slice A_l11 n_l11 c_l11), (2, .slice A_t212 n_t212 c_t212), (3, .slice A_out13 n_out13 c_out13), (4, .int .i64 i14)] w) = ref10_Sorted.X1_0 A_l11 n_l11 c_l11 A_t212 n_t212 c_t212 A_out13 n_out13 c_out13 i14 K w := by kernel_rfl
def ref10_Sorted.B2 (A_l15 : Option Addr) (n_l15 : Nat) (c_l15 : Nat) (A_t216 : Option Addr) (n_t216 : Nat) (c_t216 : Nat) (A_out17 : Option Addr) (n_out17 : Nat) (c_out17 : Nat) (i18 : Int) (at_19 : Int) (Q : Post) (w : World) : Prop :=
  let w_20 : World := w.drew; Split (decide (at_19 > (0 : Int))) ((0 ≤ i18 ∧ i18 < (n_l15 : Int)) ∧ Is A_l15 fun a21 : Addr => ∃ t2722 : Array Value, (t2722.size = 32 ∧ Cells w_20 (a21.add (i18.toNat * 32)) t2722) ∧ (0 ≤ (IntKind.i64.wrap (at_19 - (1 : Int))) ∧ (IntKind.i64.wrap (at_19 - (1 : Int))) < (n_out17 : Int)) ∧ Is A_out17 fun a23 : Addr => ∃ t3224 : Array Value, (t3224.size = 32 ∧ Cells w_20 (a23.add ((IntKind.i64.wrap (at_19 - (1 : Int))).toNat * 32)) t3224) ∧ Ret Tryd.prog 42 #[.agg t2722, .agg t3224] w_20 fun v25 w_26 => ∃ t3327 : Int, v25 = .int .i64 t3327 ∧ Split (decide (t3327 < (0 : Int))) (Q .normal [(0, .slice A_l15 n_l15 c_l15), (2, .slice A_t216 n_t216 c_t216), (3, .slice A_out17 n_out17 c_out17), (4, .int .i64 i18), (5, .int .i64 (IntKind.i64.wrap (at_19 - (1 : Int))))] w_26) (Q (.exit 2) [(0, .slice A_l15 n_l15 c_l15), (2, .slice A_t216 n_t216 c_t216), (3, .slice A_out17 n_out17 c_out17), (4, .int .i64 i18), (5, .int .i64 at_19)] w_26)) (Q (.exit 2) [(0, .slice A_l15 n_l15 c_l15), (2, .slice A_t216 n_t216 c_t216), (3, .slice A_out17 n_out17 c_out17), (4, .int .i64 i18), (5, .int .i64 at_19)] w_20)
theorem ref10_Sorted.b2 (A_l15 : Option Addr) (n_l15 : Nat) (c_l15 : Nat) (A_t216 : Option Addr) (n_t216 : Nat) (c_t216 : Nat) (A_out17 : Option Addr) (n_out17 : Nat) (c_out17 : Nat) (i18 : Int) (at_19 : Int) (Q : Post) (w : World) : (codeW none [] Tryd.prog 56 ref10_Sorted.k (lB (bB (sL (sR (sR (bB (sL (sR (lB (bB (sR (sL (sR (sR (body Tryd.f19))))))))))))))) ref10_Sorted.u2 Q [(0, .slice A_l15 n_l15 c_l15), (2, .slice A_t216 n_t216 c_t216), (3, .slice A_out17 n_out17 c_out17), (4, .int .i64 i18), (5, .int .i64 at_19)] w) = ref10_Sorted.B2 A_l15 n_l15 c_l15 A_t216 n_t216 c_t216 A_out17 n_out17 c_out17 i18 at_19 Q w := by kernel_rfl
theorem ref10_Sorted.loop2 {A_l15 : Option Addr} {n_l15 : Nat} {c_l15 : Nat} {A_t216 : Option Addr} {n_t216 : Nat} {c_t216 : Nat} {A_out17 : Option Addr} {n_out17 : Nat} {c_out17 : Nat} {i18 : Int} (I : Int → World → Prop) (μ : Int → World → Nat) (s : Int) {Q : Post} {w : World} (h0 : I s w)
    (round : ∀ s w, I s w → ref10_Sorted.B2 A_l15 n_l15 c_l15 A_t216 n_t216 c_t216 A_out17 n_out17 c_out17 i18 (s) (roundQ (ref10_Sorted.e2 A_l15 n_l15 c_l15 A_t216 n_t216 c_t216 A_out17 n_out17 c_out17 i18) I μ s w Q) w) : Holds none [] Tryd.prog 56 (.loop (lB (bB (sL (sR (sR (bB (sL (sR (lB (bB (sR (sL (sR (sR (body Tryd.f19)))))))))))))))) Q (ref10_Sorted.e2 A_l15 n_l15 c_l15 A_t216 n_t216 c_t216 A_out17 n_out17 c_out17 i18 s) w :=
  loop_of_eq ng mix (ref10_Sorted.e2 A_l15 n_l15 c_l15 A_t216 n_t216 c_t216 A_out17 n_out17 c_out17 i18) I μ ref10_Sorted.k ref10_Sorted.u2 s (fun s Q w => ref10_Sorted.B2 A_l15 n_l15 c_l15 A_t216 n_t216 c_t216 A_out17 n_out17 c_out17 i18 (s) Q w) (fun s Q w => ref10_Sorted.b2 A_l15 n_l15 c_l15 A_t216 n_t216 c_t216 A_out17 n_out17 c_out17 i18 (s) Q w) h0 round
def ref10_Sorted.X2_2 (A_l28 : Option Addr) (n_l28 : Nat) (c_l28 : Nat) (A_t229 : Option Addr) (n_t229 : Nat) (c_t229 : Nat) (A_out30 : Option Addr) (n_out30 : Nat) (c_out30 : Nat) (i31 : Int) (at_32 : Int) (Q : Post) (w : World) : Prop :=
  (0 ≤ at_32 ∧ at_32 ≤ (c_out30 : Int)) ∧ ∃ (A_t4233 : Option Addr) (n_t4233 c_t4233 : Nat) (w_34 : World), (Builtin.append_ #[25, 25] 25 #[.slice none 0 0, .slice (if c_out30 = 0 then A_out30 else A_out30.map (·.add (0 * 32))) (at_32.toNat - 0) (c_out30 - 0)]).run Tryd.prog w = .ok (.slice A_t4233 n_t4233 c_t4233) w_34 ∧ (0 ≤ i31 ∧ i31 < (n_l28 : Int)) ∧ Is A_l28 fun a35 : Addr => ∃ t4736 : Array Value, (t4736.size = 32 ∧ Cells w_34 (a35.add (i31.toNat * 32)) t4736) ∧ t4736.size = 32 ∧ let w_37 : World := w_34.alloc (.cells (t4736.toList ++ []).toArray 23); ∃ (A_t4938 : Option Addr) (n_t4938 c_t4938 : Nat) (w_39 : World), (Builtin.append_ #[25, 25] 25 #[.slice A_t4233 n_t4233 c_t4233, .slice (some (⟨w_34.heap.size, 0, none⟩ : Addr)) 1 1]).run Tryd.prog w_37 = .ok (.slice A_t4938 n_t4938 c_t4938) w_39 ∧ (0 ≤ at_32 ∧ at_32 ≤ (n_out30 : Int)) ∧ ∃ (A_t5440 : Option Addr) (n_t5440 c_t5440 : Nat) (w_41 : World), (Builtin.append_ #[25, 25] 25 #[.slice A_t4938 n_t4938 c_t4938, .slice (if c_out30 = at_32.toNat then A_out30 else A_out30.map (·.add (at_32.toNat * 32))) (n_out30 - at_32.toNat) (c_out30 - at_32.toNat)]).run Tryd.prog w_39 = .ok (.slice A_t5440 n_t5440 c_t5440) w_41 ∧ Q .normal [(0, .slice A_l28 n_l28 c_l28), (2, .slice A_t229 n_t229 c_t229), (3, .slice A_t5440 n_t5440 c_t5440), (4, .int .i64 (IntKind.i64.wrap (i31 + (1 : Int))))] w_41
theorem ref10_Sorted.x2_2 (A_l28 : Option Addr) (n_l28 : Nat) (c_l28 : Nat) (A_t229 : Option Addr) (n_t229 : Nat) (c_t229 : Nat) (A_out30 : Option Addr) (n_out30 : Nat) (c_out30 : Nat) (i31 : Int) (at_32 : Int) (Q : Post) (w : World) : (ref10_Sorted.q2 Q (.exit 2) [(0, .slice A_l28 n_l28 c_l28), (2, .slice A_t229 n_t229 c_t229), (3, .slice A_out30 n_out30 c_out30), (4, .int .i64 i31), (5, .int .i64 at_32)] w) = ref10_Sorted.X2_2 A_l28 n_l28 c_l28 A_t229 n_t229 c_t229 A_out30 n_out30 c_out30 i31 at_32 Q w := by kernel_rfl
/-! ### 28: (*plexus/dag.Graph).Has -/
def dag_Graph_Has.k : List Nat := []
def dag_Graph_Has.W (g1 : Option Addr) (id2 : Array Value) (K : Value → World → Prop) (w : World) : Prop :=
  let w_3 : World := w.alloc (.cells id2 23); ∃ t64 : Array Value, (t64.size = 32 ∧ Cells w_3 (⟨w.heap.size, 0, none⟩ : Addr) t64) ∧ Ret Tryd.prog 33 #[.pointer g1, .agg t64] w_3 fun v5 w_6 => ∃ t77 : Option Addr, v5 = .pointer t77 ∧ K (.bool (!(t77).isNone)) w_6
theorem dag_Graph_Has.s (g1 : Option Addr) (id2 : Array Value) (K : Value → World → Prop) (w : World) : (codeW none [] Tryd.prog Tryd.f28.ntmps dag_Graph_Has.k (body Tryd.f28) (resSlots Tryd.f28) (funQ Tryd.prog Tryd.f28 K) (argEnv [.pointer g1, .agg id2] 0) w) = dag_Graph_Has.W g1 id2 K w := by kernel_rfl
theorem dag_Graph_Has.of {g1 : Option Addr} {id2 : Array Value} {K : Value → World → Prop} {w : World} (h : dag_Graph_Has.W g1 id2 K w) : Ret Tryd.prog 28 #[.pointer g1, .agg id2] w K :=
  ret_of_eq (C := dag_Graph_Has.k) (fn := Tryd.f28) (c := body Tryd.f28) ng mix Tryd.func28 (by kernel_rfl) (by kernel_rfl) (dag_Graph_Has.s g1 id2 K w) h
/-! ### 29: (*plexus/dag.Graph).Root -/
def dag_Graph_Root.k : List Nat := []
def dag_Graph_Root.W (g1 : Option Addr) (K : Value → World → Prop) (w : World) : Prop :=
  let w_2 : World := w.alloc (.cells (#[.int .u8 0, .int .u8 0, .int .u8 0, .int .u8 0, .int .u8 0, .int .u8 0, .int .u8 0, .int .u8 0, .int .u8 0, .int .u8 0, .int .u8 0, .int .u8 0, .int .u8 0, .int .u8 0, .int .u8 0, .int .u8 0, .int .u8 0, .int .u8 0, .int .u8 0, .int .u8 0, .int .u8 0, .int .u8 0, .int .u8 0, .int .u8 0, .int .u8 0, .int .u8 0, .int .u8 0, .int .u8 0, .int .u8 0, .int .u8 0, .int .u8 0, .int .u8 0] : Array Value) 23); Ret Tryd.prog 41 #[.pointer g1] w_2 fun v3 w_4 => ∃ t45 : Bool, v3 = .bool t45 ∧ Split (!t45) (((#[.int .u8 0, .int .u8 0, .int .u8 0, .int .u8 0, .int .u8 0, .int .u8 0, .int .u8 0, .int .u8 0, .int .u8 0, .int .u8 0, .int .u8 0, .int .u8 0, .int .u8 0, .int .u8 0, .int .u8 0, .int .u8 0, .int .u8 0, .int .u8 0, .int .u8 0, .int .u8 0, .int .u8 0, .int .u8 0, .int .u8 0, .int .u8 0, .int .u8 0, .int .u8 0, .int .u8 0, .int .u8 0, .int .u8 0, .int .u8 0, .int .u8 0, .int .u8 0] : Array Value).size = 32 ∧ (∀ c6 ∈ (#[.int .u8 0, .int .u8 0, .int .u8 0, .int .u8 0, .int .u8 0, .int .u8 0, .int .u8 0, .int .u8 0, .int .u8 0, .int .u8 0, .int .u8 0, .int .u8 0, .int .u8 0, .int .u8 0, .int .u8 0, .int .u8 0, .int .u8 0, .int .u8 0, .int .u8 0, .int .u8 0, .int .u8 0, .int .u8 0, .int .u8 0, .int .u8 0, .int .u8 0, .int .u8 0, .int .u8 0, .int .u8 0, .int .u8 0, .int .u8 0, .int .u8 0, .int .u8 0] : Array Value).toList, c6.oneCell' = true) ∧ ∀ j7, j7 < 32 → Wr w_4 ((⟨w.heap.size, 0, none⟩ : Addr).add j7)) ∧ let w_8 : World := setCells w_4 (⟨w.heap.size, 0, none⟩ : Addr) (#[.int .u8 0, .int .u8 0, .int .u8 0, .int .u8 0, .int .u8 0, .int .u8 0, .int .u8 0, .int .u8 0, .int .u8 0, .int .u8 0, .int .u8 0, .int .u8 0, .int .u8 0, .int .u8 0, .int .u8 0, .int .u8 0, .int .u8 0, .int .u8 0, .int .u8 0, .int .u8 0, .int .u8 0, .int .u8 0, .int .u8 0, .int .u8 0, .int .u8 0, .int .u8 0, .int .u8 0, .int .u8 0, .int .u8 0, .int .u8 0, .int .u8 0, .int .u8 0] : Array Value).toList 0; ∃ r9 : Array Value, (r9.size = 32 ∧ Cells w_8 (⟨w.heap.size, 0, none⟩ : Addr) r9) ∧ K (.agg r9) w_8) (Is g1 fun a10 : Addr => ∃ A_t1011 : Option Addr, ∃ n_t1011 : Nat, ∃ c_t1011 : Nat, w_4.cell? (a10.add 0) = some (.slice A_t1011 n_t1011 c_t1011) ∧ (0 ≤ (0 : Int) ∧ (0 : Int) < (n_t1011 : Int)) ∧ Is A_t1011 fun a12 : Addr => ∃ t1213 : Option Addr, w_4.cell? (a12.add ((0 : Int).toNat * 1)) = some (.pointer t1213) ∧ Is t1213 fun a14 : Addr => ∃ t1515 : Array Value, (t1515.size = 32 ∧ Cells w_4 (a14.add 0) t1515) ∧ (t1515.size = 32 ∧ (∀ c16 ∈ t1515.toList, c16.oneCell' = true) ∧ ∀ j17, j17 < 32 → Wr w_4 ((⟨w.heap.size, 0, none⟩ : Addr).add j17)) ∧ let w_18 : World := setCells w_4 (⟨w.heap.size, 0, none⟩ : Addr) t1515.toList 0; ∃ r19 : Array Value, (r19.size = 32 ∧ Cells w_18 (⟨w.heap.size, 0, none⟩ : Addr) r19) ∧ K (.agg r19) w_18)
theorem dag_Graph_Root.s (g1 : Option Addr) (K : Value → World → Prop) (w : World) : (codeW none [] Tryd.prog Tryd.f29.ntmps dag_Graph_Root.k (body Tryd.f29) (resSlots Tryd.f29) (funQ Tryd.prog Tryd.f29 K) (argEnv [.pointer g1] 0) w) = dag_Graph_Root.W g1 K w := by kernel_rfl
theorem dag_Graph_Root.of {g1 : Option Addr} {K : Value → World → Prop} {w : World} (h : dag_Graph_Root.W g1 K w) : Ret Tryd.prog 29 #[.pointer g1] w K :=
  ret_of_eq (C := dag_Graph_Root.k) (fn := Tryd.f29) (c := body Tryd.f29) ng mix Tryd.func29 (by kernel_rfl) (by kernel_rfl) (dag_Graph_Root.s g1 K w) h
/-! ### 33: (*plexus/dag.Graph).find -/
def dag_Graph_find.k : List Nat := []
def dag_Graph_find.W (g1 : Option Addr) (id2 : Array Value) (K : Value → World → Prop) (w : World) : Prop :=
  let w_3 : World := w.alloc (.cells id2 23); Ret Tryd.prog 41 #[.pointer g1] w_3 fun v4 w_5 => ∃ t86 : Bool, v4 = .bool t86 ∧ Split t86 (let w_7 : World := w_5.drew; Is g1 fun a8 : Addr => ∃ t139 : Option Nat, w_7.cell? (a8.add 1) = some (.map t139) ∧ ∃ t1410 : Array Value, (t1410.size = 32 ∧ Cells w_7 (⟨w.heap.size, 0, none⟩ : Addr) t1410) ∧ ∃ t1511 : Int, ∃ b12 : Bool, (Instr.lookup 56 (.map t139) (.agg t1410) true).run Tryd.prog w_7 = .ok (.tuple #[.int .i64 t1511, .bool b12]) w_7 ∧ Split b12 (Is g1 fun a13 : Addr => ∃ A_t2214 : Option Addr, ∃ n_t2214 : Nat, ∃ c_t2214 : Nat, w_7.cell? (a13.add 0) = some (.slice A_t2214 n_t2214 c_t2214) ∧ (0 ≤ t1511 ∧ t1511 < (n_t2214 : Int)) ∧ Is A_t2214 fun a15 : Addr => ∃ t2516 : Option Addr, w_7.cell? (a15.add (t1511.toNat * 1)) = some (.pointer t2516) ∧ K (.pointer t2516) w_7) (K (.pointer none) w_7)) (K (.pointer none) w_5)
theorem dag_Graph_find.s (g1 : Option Addr) (id2 : Array Value) (K : Value → World → Prop) (w : World) : (codeW none [] Tryd.prog Tryd.f33.ntmps dag_Graph_find.k (body Tryd.f33) (resSlots Tryd.f33) (funQ Tryd.prog Tryd.f33 K) (argEnv [.pointer g1, .agg id2] 0) w) = dag_Graph_find.W g1 id2 K w := by kernel_rfl
theorem dag_Graph_find.of {g1 : Option Addr} {id2 : Array Value} {K : Value → World → Prop} {w : World} (h : dag_Graph_find.W g1 id2 K w) : Ret Tryd.prog 33 #[.pointer g1, .agg id2] w K :=
  ret_of_eq (C := dag_Graph_find.k) (fn := Tryd.f33) (c := body Tryd.f33) ng mix Tryd.func33 (by kernel_rfl) (by kernel_rfl) (dag_Graph_find.s g1 id2 K w) h
/-! ### 34: (plexus/dag.row).has -/
def dag_row_has.k : List Nat := []
def dag_row_has.W (A_r1 : Option Addr) (n_r1 : Nat) (c_r1 : Nat) (n2 : Int) (K : Value → World → Prop) (w : World) : Prop :=
  (64 : Int) ≠ 0 ∧ Split (decide ((IntKind.i64.wrap (n2.tdiv (64 : Int))) < (n_r1 : Int))) ((64 : Int) ≠ 0 ∧ (0 ≤ (IntKind.i64.wrap (n2.tdiv (64 : Int))) ∧ (IntKind.i64.wrap (n2.tdiv (64 : Int))) < (n_r1 : Int)) ∧ Is A_r1 fun a3 : Addr => ∃ t154 : Int, w.cell? (a3.add ((IntKind.i64.wrap (n2.tdiv (64 : Int))).toNat * 1)) = some (.int .u64 t154) ∧ (64 : Int) ≠ 0 ∧ 0 ≤ (n2.tmod (64 : Int)) ∧ K (.bool ((IntKind.u64.wrap ((BitVec.ofInt 64 (t154.fdiv (2 ^ (min (n2.tmod (64 : Int)).toNat 64))) &&& BitVec.ofInt 64 (1 : Int)).toNat)) == (1 : Int))) w) (K (.bool false) w)
theorem dag_row_has.s (A_r1 : Option Addr) (n_r1 : Nat) (c_r1 : Nat) (n2 : Int) (K : Value → World → Prop) (w : World) : (codeW none [] Tryd.prog Tryd.f34.ntmps dag_row_has.k (body Tryd.f34) (resSlots Tryd.f34) (funQ Tryd.prog Tryd.f34 K) (argEnv [.slice A_r1 n_r1 c_r1, .int .i64 n2] 0) w) = dag_row_has.W A_r1 n_r1 c_r1 n2 K w := by kernel_rfl
theorem dag_row_has.of {A_r1 : Option Addr} {n_r1 : Nat} {c_r1 : Nat} {n2 : Int} {K : Value → World → Prop} {w : World} (h : dag_row_has.W A_r1 n_r1 c_r1 n2 K w) : Ret Tryd.prog 34 #[.slice A_r1 n_r1 c_r1, .int .i64 n2] w K :=
  ret_of_eq (C := dag_row_has.k) (fn := Tryd.f34) (c := body Tryd.f34) ng mix Tryd.func34 (by kernel_rfl) (by kernel_rfl) (dag_row_has.s A_r1 n_r1 c_r1 n2 K w) h
/-! ### 35: (plexus/dag.row).or -/
def dag_row_or.k : List Nat := []
def dag_row_or.q1 (K : Value → World → Prop) : Post := (blockQ 0 (uses (sR (sR (body Tryd.f35))) ++ (resSlots Tryd.f35)) (thenQ (fun ρ_ w_ => match cutAt dag_row_or.k (sR (sR (body Tryd.f35))) with | true => Holds none [] Tryd.prog 30 (sR (sR (body Tryd.f35))) (funQ Tryd.prog Tryd.f35 K) ρ_ w_ | false => codeW none [] Tryd.prog 30 dag_row_or.k (sR (sR (body Tryd.f35))) (resSlots Tryd.f35) (funQ Tryd.prog Tryd.f35 K) ρ_ w_) (funQ Tryd.prog Tryd.f35 K)))
def dag_row_or.e1 (A_t44 : Option Addr) (n_t44 : Nat) (c_t44 : Nat) (A_t75 : Option Addr) (n_t75 : Nat) (c_t75 : Nat) (t86 : Int) (s : (Option Addr) × Nat × Nat × Int) : Env := [(0, .slice s.1 s.2.1 s.2.2.1), (4, .slice A_t44 n_t44 c_t44), (7, .slice A_t75 n_t75 c_t75), (8, .int .i64 t86), (9, .int .i64 s.2.2.2)]
def dag_row_or.u1 : List Nat := [0, 4, 7, 8, 9]
def dag_row_or.W (A_r1 : Option Addr) (n_r1 : Nat) (c_r1 : Nat) (A_o2 : Option Addr) (n_o2 : Nat) (c_o2 : Nat) (K : Value → World → Prop) (w : World) : Prop :=
  Holds none [] Tryd.prog 30 (.loop (lB (bB (sR (sL (sR (body Tryd.f35))))))) (dag_row_or.q1 K) [(0, .slice A_r1 n_r1 c_r1), (4, .slice none 0 0), (7, .slice A_o2 n_o2 c_o2), (8, .int .i64 (n_o2 : Int)), (9, .int .i64 0)] w
theorem dag_row_or.s (A_r1 : Option Addr) (n_r1 : Nat) (c_r1 : Nat) (A_o2 : Option Addr) (n_o2 : Nat) (c_o2 : Nat) (K : Value → World → Prop) (w : World) : (codeW none [] Tryd.prog Tryd.f35.ntmps dag_row_or.k (body Tryd.f35) (resSlots Tryd.f35) (funQ Tryd.prog Tryd.f35 K) (argEnv [.slice A_r1 n_r1 c_r1, .slice A_o2 n_o2 c_o2] 0) w) = dag_row_or.W A_r1 n_r1 c_r1 A_o2 n_o2 c_o2 K w := by kernel_rfl
theorem dag_row_or.of {A_r1 : Option Addr} {n_r1 : Nat} {c_r1 : Nat} {A_o2 : Option Addr} {n_o2 : Nat} {c_o2 : Nat} {K : Value → World → Prop} {w : World} (h : dag_row_or.W A_r1 n_r1 c_r1 A_o2 n_o2 c_o2 K w) : Ret Tryd.prog 35 #[.slice A_r1 n_r1 c_r1, .slice A_o2 n_o2 c_o2] w K :=
  ret_of_eq (C := dag_row_or.k) (fn := Tryd.f35) (c := body Tryd.f35) ng mix Tryd.func35 (by kernel_rfl) (by kernel_rfl) (dag_row_or.s A_r1 n_r1 c_r1 A_o2 n_o2 c_o2 K w) h
def dag_row_or.B1 (A_r3 : Option Addr) (n_r3 : Nat) (c_r3 : Nat) (A_t44 : Option Addr) (n_t44 : Nat) (c_t44 : Nat) (A_t75 : Option Addr) (n_t75 : Nat) (c_t75 : Nat) (t86 : Int) (t97 : Int) (Q : Post) (w : World) : Prop :=
  Split (decide (t97 < t86)) ((0 ≤ t97 ∧ t97 < (n_t75 : Int)) ∧ Is A_t75 fun a8 : Addr => ∃ t139 : Int, w.cell? (a8.add (t97.toNat * 1)) = some (.int .u64 t139) ∧ Split (t97 == (n_r3 : Int)) (let w_10 : World := w.alloc (.cells #[.int .u64 0] 88); ∃ (A_t2011 : Option Addr) (n_t2011 c_t2011 : Nat) (w_12 : World), (Builtin.append_ #[73, 73] 73 #[.slice A_r3 n_r3 c_r3, .slice (some (⟨w.heap.size, 0, none⟩ : Addr)) 1 1]).run Tryd.prog w_10 = .ok (.slice A_t2011 n_t2011 c_t2011) w_12 ∧ (0 ≤ t97 ∧ t97 < (n_t2011 : Int)) ∧ Is A_t2011 fun a13 : Addr => ∃ t2414 : Int, w_12.cell? (a13.add (t97.toNat * 1)) = some (.int .u64 t2414) ∧ (0 ≤ t97 ∧ t97 < (n_t2011 : Int)) ∧ Is A_t2011 fun a15 : Addr => Wr w_12 (a15.add (t97.toNat * 1)) ∧ let w_16 : World := w_12.setCell (a15.add (t97.toNat * 1)) (.int .u64 (IntKind.u64.wrap ((BitVec.ofInt 64 t2414 ||| BitVec.ofInt 64 t139).toNat))); Q .normal [(0, .slice A_t2011 n_t2011 c_t2011), (4, .slice A_t44 n_t44 c_t44), (7, .slice A_t75 n_t75 c_t75), (8, .int .i64 t86), (9, .int .i64 (IntKind.i64.wrap (t97 + (1 : Int))))] w_16) ((0 ≤ t97 ∧ t97 < (n_r3 : Int)) ∧ Is A_r3 fun a17 : Addr => ∃ t2418 : Int, w.cell? (a17.add (t97.toNat * 1)) = some (.int .u64 t2418) ∧ (0 ≤ t97 ∧ t97 < (n_r3 : Int)) ∧ Is A_r3 fun a19 : Addr => Wr w (a19.add (t97.toNat * 1)) ∧ let w_20 : World := w.setCell (a19.add (t97.toNat * 1)) (.int .u64 (IntKind.u64.wrap ((BitVec.ofInt 64 t2418 ||| BitVec.ofInt 64 t139).toNat))); Q .normal [(0, .slice A_r3 n_r3 c_r3), (4, .slice A_t44 n_t44 c_t44), (7, .slice A_t75 n_t75 c_t75), (8, .int .i64 t86), (9, .int .i64 (IntKind.i64.wrap (t97 + (1 : Int))))] w_20)) (Q (.exit 0) [(0, .slice A_r3 n_r3 c_r3), (4, .slice A_t44 n_t44 c_t44), (7, .slice A_t75 n_t75 c_t75), (8, .int .i64 t86), (9, .int .i64 t97)] w)
theorem dag_row_or.b1 (A_r3 : Option Addr) (n_r3 : Nat) (c_r3 : Nat) (A_t44 : Option Addr) (n_t44 : Nat) (c_t44 : Nat) (A_t75 : Option Addr) (n_t75 : Nat) (c_t75 : Nat) (t86 : Int) (t97 : Int) (Q : Post) (w : World) : (codeW none [] Tryd.prog 30 dag_row_or.k (lB (bB (sR (sL (sR (body Tryd.f35)))))) dag_row_or.u1 Q [(0, .slice A_r3 n_r3 c_r3), (4, .slice A_t44 n_t44 c_t44), (7, .slice A_t75 n_t75 c_t75), (8, .int .i64 t86), (9, .int .i64 t97)] w) = dag_row_or.B1 A_r3 n_r3 c_r3 A_t44 n_t44 c_t44 A_t75 n_t75 c_t75 t86 t97 Q w := by kernel_rfl
theorem dag_row_or.loop1 {A_t44 : Option Addr} {n_t44 : Nat} {c_t44 : Nat} {A_t75 : Option Addr} {n_t75 : Nat} {c_t75 : Nat} {t86 : Int} (I : (Option Addr) × Nat × Nat × Int → World → Prop) (μ : (Option Addr) × Nat × Nat × Int → World → Nat) (s : (Option Addr) × Nat × Nat × Int) {Q : Post} {w : World} (h0 : I s w)
    (round : ∀ s w, I s w → dag_row_or.B1 (s.1) (s.2.1) (s.2.2.1) A_t44 n_t44 c_t44 A_t75 n_t75 c_t75 t86 (s.2.2.2) (roundQ (dag_row_or.e1 A_t44 n_t44 c_t44 A_t75 n_t75 c_t75 t86) I μ s w Q) w) : Holds none [] Tryd.prog 30 (.loop (lB (bB (sR (sL (sR (body Tryd.f35))))))) Q (dag_row_or.e1 A_t44 n_t44 c_t44 A_t75 n_t75 c_t75 t86 s) w :=
  loop_of_eq ng mix (dag_row_or.e1 A_t44 n_t44 c_t44 A_t75 n_t75 c_t75 t86) I μ dag_row_or.k dag_row_or.u1 s (fun s Q w => dag_row_or.B1 (s.1) (s.2.1) (s.2.2.1) A_t44 n_t44 c_t44 A_t75 n_t75 c_t75 t86 (s.2.2.2) Q w) (fun s Q w => dag_row_or.b1 (s.1) (s.2.1) (s.2.2.1) A_t44 n_t44 c_t44 A_t75 n_t75 c_t75 t86 (s.2.2.2) Q w) h0 round
def dag_row_or.X1_0 (A_r21 : Option Addr) (n_r21 : Nat) (c_r21 : Nat) (A_t422 : Option Addr) (n_t422 : Nat) (c_t422 : Nat) (A_t723 : Option Addr) (n_t723 : Nat) (c_t723 : Nat) (t824 : Int) (t925 : Int) (K : Value → World → Prop) (w : World) : Prop :=
  K (.slice A_r21 n_r21 c_r21) w
theorem dag_row_or.x1_0 (A_r21 : Option Addr) (n_r21 : Nat) (c_r21 : Nat) (A_t422 : Option Addr) (n_t422 : Nat) (c_t422 : Nat) (A_t723 : Option Addr) (n_t723 : Nat) (c_t723 : Nat) (t824 : Int) (t925 : Int) (K : Value → World → Prop) (w : World) : (dag_row_or.q1 K (.exit 0) [(0, .slice A_r21 n_r21 c_r21), (4, .slice A_t422 n_t422 c_t422), (7, .slice A_t723 n_t723 c_t723), (8, .int .i64 t824), (9, .int .i64 t925)] w) = dag_row_or.X1_0 A_r21 n_r21 c_r21 A_t422 n_t422 c_t422 A_t723 n_t723 c_t723 t824 t925 K w := by kernel_rfl
/-! ### 39: (*plexus/dag.Graph).Future$1 -/
def dag_Graph_Future_fn1.k : List Nat := []
def dag_Graph_Future_fn1.W (_1 : Int) (n2 : Option Addr) (cap3 : Addr) (K : Value → World → Prop) (w : World) : Prop :=
  let w_4 : World := w.drew; Is n2 fun a5 : Addr => ∃ A_t96 : Option Addr, ∃ n_t96 : Nat, ∃ c_t96 : Nat, w_4.cell? (a5.add 34) = some (.slice A_t96 n_t96 c_t96) ∧ ∃ t107 : Int, w_4.cell? cap3 = some (.int .i64 t107) ∧ Ret Tryd.prog 34 #[.slice A_t96 n_t96 c_t96, .int .i64 t107] w_4 fun v8 w_9 => ∃ t1110 : Bool, v8 = .bool t1110 ∧ K (.bool t1110) w_9
theorem dag_Graph_Future_fn1.s (_1 : Int) (n2 : Option Addr) (cap3 : Addr) (K : Value → World → Prop) (w : World) : (codeW none [] Tryd.prog Tryd.f39.ntmps dag_Graph_Future_fn1.k (body Tryd.f39) (resSlots Tryd.f39) (funQ Tryd.prog Tryd.f39 K) (argEnv [.int .i64 _1, .pointer n2, .pointer (some cap3)] 0) w) = dag_Graph_Future_fn1.W _1 n2 cap3 K w := by kernel_rfl
theorem dag_Graph_Future_fn1.of {_1 : Int} {n2 : Option Addr} {cap3 : Addr} {K : Value → World → Prop} {w : World} (h : dag_Graph_Future_fn1.W _1 n2 cap3 K w) : Ret Tryd.prog 39 #[.int .i64 _1, .pointer n2, .pointer (some cap3)] w K :=
  ret_of_eq (C := dag_Graph_Future_fn1.k) (fn := Tryd.f39) (c := body Tryd.f39) ng mix Tryd.func39 (by kernel_rfl) (by kernel_rfl) (dag_Graph_Future_fn1.s _1 n2 cap3 K w) h
/-! ### 40: (*plexus/dag.Graph).Anticone$1 -/
def dag_Graph_Anticone_fn1.k : List Nat := []
def dag_Graph_Anticone_fn1.W (i1 : Int) (n2 : Option Addr) (cap3 : Addr) (cap4 : Addr) (K : Value → World → Prop) (w : World) : Prop :=
  let w_5 : World := w.drew; ∃ t86 : Option Addr, w_5.cell? cap3 = some (.pointer t86) ∧ ∃ b7 : Bool, (Go.binOp .neq 70 (.pointer n2) (.pointer t86)).run Tryd.prog w_5 = .ok (.bool b7) w_5 ∧ Split b7 (Is n2 fun a8 : Addr => ∃ A_t149 : Option Addr, ∃ n_t149 : Nat, ∃ c_t149 : Nat, w_5.cell? (a8.add 34) = some (.slice A_t149 n_t149 c_t149) ∧ ∃ t1510 : Int, w_5.cell? cap4 = some (.int .i64 t1510) ∧ Ret Tryd.prog 34 #[.slice A_t149 n_t149 c_t149, .int .i64 t1510] w_5 fun v11 w_12 => ∃ t1613 : Bool, v11 = .bool t1613 ∧ Split (!t1613) (∃ t2014 : Option Addr, w_12.cell? cap3 = some (.pointer t2014) ∧ Is t2014 fun a15 : Addr => ∃ A_t2316 : Option Addr, ∃ n_t2316 : Nat, ∃ c_t2316 : Nat, w_12.cell? (a15.add 34) = some (.slice A_t2316 n_t2316 c_t2316) ∧ Ret Tryd.prog 34 #[.slice A_t2316 n_t2316 c_t2316, .int .i64 i1] w_12 fun v17 w_18 => ∃ t2519 : Bool, v17 = .bool t2519 ∧ K (.bool (!t2519)) w_18) (K (.bool false) w_12)) (K (.bool false) w_5)
theorem dag_Graph_Anticone_fn1.s (i1 : Int) (n2 : Option Addr) (cap3 : Addr) (cap4 : Addr) (K : Value → World → Prop) (w : World) : (codeW none [] Tryd.prog Tryd.f40.ntmps dag_Graph_Anticone_fn1.k (body Tryd.f40) (resSlots Tryd.f40) (funQ Tryd.prog Tryd.f40 K) (argEnv [.int .i64 i1, .pointer n2, .pointer (some cap3), .pointer (some cap4)] 0) w) = dag_Graph_Anticone_fn1.W i1 n2 cap3 cap4 K w := by kernel_rfl
theorem dag_Graph_Anticone_fn1.of {i1 : Int} {n2 : Option Addr} {cap3 : Addr} {cap4 : Addr} {K : Value → World → Prop} {w : World} (h : dag_Graph_Anticone_fn1.W i1 n2 cap3 cap4 K w) : Ret Tryd.prog 40 #[.int .i64 i1, .pointer n2, .pointer (some cap3), .pointer (some cap4)] w K :=
  ret_of_eq (C := dag_Graph_Anticone_fn1.k) (fn := Tryd.f40) (c := body Tryd.f40) ng mix Tryd.func40 (by kernel_rfl) (by kernel_rfl) (dag_Graph_Anticone_fn1.s i1 n2 cap3 cap4 K w) h
/-! ### 41: (*plexus/dag.Graph).there -/
def dag_Graph_there.k : List Nat := []
def dag_Graph_there.W (g1 : Option Addr) (K : Value → World → Prop) (w : World) : Prop :=
  Split (!(g1).isNone) (Is g1 fun a2 : Addr => ∃ t93 : Option Nat, w.cell? (a2.add 1) = some (.map t93) ∧ K (.bool (!(t93).isNone)) w) (K (.bool false) w)
theorem dag_Graph_there.s (g1 : Option Addr) (K : Value → World → Prop) (w : World) : (codeW none [] Tryd.prog Tryd.f41.ntmps dag_Graph_there.k (body Tryd.f41) (resSlots Tryd.f41) (funQ Tryd.prog Tryd.f41 K) (argEnv [.pointer g1] 0) w) = dag_Graph_there.W g1 K w := by kernel_rfl
theorem dag_Graph_there.of {g1 : Option Addr} {K : Value → World → Prop} {w : World} (h : dag_Graph_there.W g1 K w) : Ret Tryd.prog 41 #[.pointer g1] w K :=
  ret_of_eq (C := dag_Graph_there.k) (fn := Tryd.f41) (c := body Tryd.f41) ng mix Tryd.func41 (by kernel_rfl) (by kernel_rfl) (dag_Graph_there.s g1 K w) h
/-! ### 42: plexus/plexusref10.Compare -/
def ref10_Compare.k : List Nat := []
def ref10_Compare.q1 (K : Value → World → Prop) : Post := (blockQ 0 (uses (sR (sR (body Tryd.f42))) ++ (resSlots Tryd.f42)) (thenQ (fun ρ_ w_ => match cutAt ref10_Compare.k (sR (sR (body Tryd.f42))) with | true => Holds none [] Tryd.prog 24 (sR (sR (body Tryd.f42))) (funQ Tryd.prog Tryd.f42 K) ρ_ w_ | false => codeW none [] Tryd.prog 24 ref10_Compare.k (sR (sR (body Tryd.f42))) (resSlots Tryd.f42) (funQ Tryd.prog Tryd.f42 K) ρ_ w_) (funQ Tryd.prog Tryd.f42 K)))
def ref10_Compare.e1 (a5 : Addr) (b6 : Addr) (s : Int × Int) : Env := [(2, .pointer (some a5)), (3, .pointer (some b6)), (4, .int .i64 s.1), (5, .int .i64 s.2)]
def ref10_Compare.u1 : List Nat := [2, 3, 4, 5]
def ref10_Compare.W (a1 : Array Value) (b2 : Array Value) (K : Value → World → Prop) (w : World) : Prop :=
  let w_3 : World := w.alloc (.cells a1 23); let w_4 : World := w_3.alloc (.cells b2 23); Holds none [] Tryd.prog 24 (.loop (lB (bB (sR (sL (sR (body Tryd.f42))))))) (ref10_Compare.q1 K) [(2, .pointer (some (⟨w.heap.size, 0, none⟩ : Addr))), (3, .pointer (some (⟨w_3.heap.size, 0, none⟩ : Addr))), (4, .int .i64 0), (5, .int .i64 0)] w_4
theorem ref10_Compare.s (a1 : Array Value) (b2 : Array Value) (K : Value → World → Prop) (w : World) : (codeW none [] Tryd.prog Tryd.f42.ntmps ref10_Compare.k (body Tryd.f42) (resSlots Tryd.f42) (funQ Tryd.prog Tryd.f42 K) (argEnv [.agg a1, .agg b2] 0) w) = ref10_Compare.W a1 b2 K w := by kernel_rfl
theorem ref10_Compare.of {a1 : Array Value} {b2 : Array Value} {K : Value → World → Prop} {w : World} (h : ref10_Compare.W a1 b2 K w) : Ret Tryd.prog 42 #[.agg a1, .agg b2] w K :=
  ret_of_eq (C := ref10_Compare.k) (fn := Tryd.f42) (c := body Tryd.f42) ng mix Tryd.func42 (by kernel_rfl) (by kernel_rfl) (ref10_Compare.s a1 b2 K w) h
def ref10_Compare.B1 (a5 : Addr) (b6 : Addr) (t47 : Int) (i8 : Int) (Q : Post) (w : World) : Prop :=
  Split (decide (i8 < (32 : Int))) (let w_9 : World := w.drew; (0 ≤ i8 ∧ i8 < (32 : Int)) ∧ ∃ t1210 : Int, w_9.cell? (a5.add (i8.toNat * 1)) = some (.int .u8 t1210) ∧ (0 ≤ i8 ∧ i8 < (32 : Int)) ∧ ∃ t1511 : Int, w_9.cell? (b6.add (i8.toNat * 1)) = some (.int .u8 t1511) ∧ Split (decide (t1210 < t1511)) (Q .ret [(2, .pointer (some a5)), (3, .pointer (some b6)), (4, .int .i64 (-1)), (5, .int .i64 i8)] w_9) (let w_12 : World := w_9.drew; (0 ≤ i8 ∧ i8 < (32 : Int)) ∧ ∃ t1913 : Int, w_12.cell? (a5.add (i8.toNat * 1)) = some (.int .u8 t1913) ∧ (0 ≤ i8 ∧ i8 < (32 : Int)) ∧ ∃ t2214 : Int, w_12.cell? (b6.add (i8.toNat * 1)) = some (.int .u8 t2214) ∧ Split (decide (t1913 > t2214)) (Q .ret [(2, .pointer (some a5)), (3, .pointer (some b6)), (4, .int .i64 1), (5, .int .i64 i8)] w_12) (Q .normal [(2, .pointer (some a5)), (3, .pointer (some b6)), (4, .int .i64 t47), (5, .int .i64 (IntKind.i64.wrap (i8 + (1 : Int))))] w_12))) (Q (.exit 0) [(2, .pointer (some a5)), (3, .pointer (some b6)), (4, .int .i64 t47), (5, .int .i64 i8)] w)
theorem ref10_Compare.b1 (a5 : Addr) (b6 : Addr) (t47 : Int) (i8 : Int) (Q : Post) (w : World) : (codeW none [] Tryd.prog 24 ref10_Compare.k (lB (bB (sR (sL (sR (body Tryd.f42)))))) ref10_Compare.u1 Q [(2, .pointer (some a5)), (3, .pointer (some b6)), (4, .int .i64 t47), (5, .int .i64 i8)] w) = ref10_Compare.B1 a5 b6 t47 i8 Q w := by kernel_rfl
theorem ref10_Compare.loop1 {a5 : Addr} {b6 : Addr} (I : Int × Int → World → Prop) (μ : Int × Int → World → Nat) (s : Int × Int) {Q : Post} {w : World} (h0 : I s w)
    (round : ∀ s w, I s w → ref10_Compare.B1 a5 b6 (s.1) (s.2) (roundQ (ref10_Compare.e1 a5 b6) I μ s w Q) w) : Holds none [] Tryd.prog 24 (.loop (lB (bB (sR (sL (sR (body Tryd.f42))))))) Q (ref10_Compare.e1 a5 b6 s) w :=
  loop_of_eq ng mix (ref10_Compare.e1 a5 b6) I μ ref10_Compare.k ref10_Compare.u1 s (fun s Q w => ref10_Compare.B1 a5 b6 (s.1) (s.2) Q w) (fun s Q w => ref10_Compare.b1 a5 b6 (s.1) (s.2) Q w) h0 round
def ref10_Compare.X1_0 (a15 : Addr) (b16 : Addr) (t417 : Int) (i18 : Int) (K : Value → World → Prop) (w : World) : Prop :=
  K (.int .i64 0) w
theorem ref10_Compare.x1_0 (a15 : Addr) (b16 : Addr) (t417 : Int) (i18 : Int) (K : Value → World → Prop) (w : World) : (ref10_Compare.q1 K (.exit 0) [(2, .pointer (some a15)), (3, .pointer (some b16)), (4, .int .i64 t417), (5, .int .i64 i18)] w) = ref10_Compare.X1_0 a15 b16 t417 i18 K w := by kernel_rfl
/-! ### 50: (*plexus/dag.Graph).Add$1 -/
def dag_Graph_Add_fn1.k : List Nat := []
def dag_Graph_Add_fn1.W (p1 : Array Value) (cap2 : Addr) (K : Value → World → Prop) (w : World) : Prop :=
  let w_3 : World := w.alloc (.cells p1 23); ∃ t44 : Option Addr, w_3.cell? cap2 = some (.pointer t44) ∧ ∃ t55 : Array Value, (t55.size = 32 ∧ Cells w_3 (⟨w.heap.size, 0, none⟩ : Addr) t55) ∧ Ret Tryd.prog 28 #[.pointer t44, .agg t55] w_3 fun v6 w_7 => ∃ t68 : Bool, v6 = .bool t68 ∧ K (.bool (!t68)) w_7
theorem dag_Graph_Add_fn1.s (p1 : Array Value) (cap2 : Addr) (K : Value → World → Prop) (w : World) : (codeW none [] Tryd.prog Tryd.f50.ntmps dag_Graph_Add_fn1.k (body Tryd.f50) (resSlots Tryd.f50) (funQ Tryd.prog Tryd.f50 K) (argEnv [.agg p1, .pointer (some cap2)] 0) w) = dag_Graph_Add_fn1.W p1 cap2 K w := by kernel_rfl
theorem dag_Graph_Add_fn1.of {p1 : Array Value} {cap2 : Addr} {K : Value → World → Prop} {w : World} (h : dag_Graph_Add_fn1.W p1 cap2 K w) : Ret Tryd.prog 50 #[.agg p1, .pointer (some cap2)] w K :=
  ret_of_eq (C := dag_Graph_Add_fn1.k) (fn := Tryd.f50) (c := body Tryd.f50) ng mix Tryd.func50 (by kernel_rfl) (by kernel_rfl) (dag_Graph_Add_fn1.s p1 cap2 K w) h
/-! ### 51: (plexus/dag.row).with -/
def dag_row_with.k : List Nat := []
def dag_row_with.q1 (K : Value → World → Prop) : Post := (blockQ 0 (uses (sR (sR (body Tryd.f51))) ++ (resSlots Tryd.f51)) (thenQ (fun ρ_ w_ => match cutAt dag_row_with.k (sR (sR (body Tryd.f51))) with | true => Holds none [] Tryd.prog 24 (sR (sR (body Tryd.f51))) (funQ Tryd.prog Tryd.f51 K) ρ_ w_ | false => codeW none [] Tryd.prog 24 dag_row_with.k (sR (sR (body Tryd.f51))) (resSlots Tryd.f51) (funQ Tryd.prog Tryd.f51 K) ρ_ w_) (funQ Tryd.prog Tryd.f51 K)))
def dag_row_with.e1 (n4 : Int) (A_t45 : Option Addr) (n_t45 : Nat) (c_t45 : Nat) (s : (Option Addr) × Nat × Nat) : Env := [(0, .slice s.1 s.2.1 s.2.2), (1, .int .i64 n4), (4, .slice A_t45 n_t45 c_t45)]
def dag_row_with.u1 : List Nat := [0, 1, 4]
def dag_row_with.W (A_r1 : Option Addr) (n_r1 : Nat) (c_r1 : Nat) (n2 : Int) (K : Value → World → Prop) (w : World) : Prop :=
  Holds none [] Tryd.prog 24 (.loop (lB (bB (sL (sR (body Tryd.f51)))))) (dag_row_with.q1 K) [(0, .slice A_r1 n_r1 c_r1), (1, .int .i64 n2), (4, .slice none 0 0)] w
theorem dag_row_with.s (A_r1 : Option Addr) (n_r1 : Nat) (c_r1 : Nat) (n2 : Int) (K : Value → World → Prop) (w : World) : (codeW none [] Tryd.prog Tryd.f51.ntmps dag_row_with.k (body Tryd.f51) (resSlots Tryd.f51) (funQ Tryd.prog Tryd.f51 K) (argEnv [.slice A_r1 n_r1 c_r1, .int .i64 n2] 0) w) = dag_row_with.W A_r1 n_r1 c_r1 n2 K w := by kernel_rfl
theorem dag_row_with.of {A_r1 : Option Addr} {n_r1 : Nat} {c_r1 : Nat} {n2 : Int} {K : Value → World → Prop} {w : World} (h : dag_row_with.W A_r1 n_r1 c_r1 n2 K w) : Ret Tryd.prog 51 #[.slice A_r1 n_r1 c_r1, .int .i64 n2] w K :=
  ret_of_eq (C := dag_row_with.k) (fn := Tryd.f51) (c := body Tryd.f51) ng mix Tryd.func51 (by kernel_rfl) (by kernel_rfl) (dag_row_with.s A_r1 n_r1 c_r1 n2 K w) h
def dag_row_with.B1 (A_r3 : Option Addr) (n_r3 : Nat) (c_r3 : Nat) (n4 : Int) (A_t45 : Option Addr) (n_t45 : Nat) (c_t45 : Nat) (Q : Post) (w : World) : Prop :=
  (64 : Int) ≠ 0 ∧ Split (decide ((n_r3 : Int) ≤ (IntKind.i64.wrap (n4.tdiv (64 : Int))))) (let w_6 : World := w.alloc (.cells #[.int .u64 0] 88); ∃ (A_t127 : Option Addr) (n_t127 c_t127 : Nat) (w_8 : World), (Builtin.append_ #[73, 73] 73 #[.slice A_r3 n_r3 c_r3, .slice (some (⟨w.heap.size, 0, none⟩ : Addr)) 1 1]).run Tryd.prog w_6 = .ok (.slice A_t127 n_t127 c_t127) w_8 ∧ Q .normal [(0, .slice A_t127 n_t127 c_t127), (1, .int .i64 n4), (4, .slice A_t45 n_t45 c_t45)] w_8) (Q (.exit 0) [(0, .slice A_r3 n_r3 c_r3), (1, .int .i64 n4), (4, .slice A_t45 n_t45 c_t45)] w)
theorem dag_row_with.b1 (A_r3 : Option Addr) (n_r3 : Nat) (c_r3 : Nat) (n4 : Int) (A_t45 : Option Addr) (n_t45 : Nat) (c_t45 : Nat) (Q : Post) (w : World) : (codeW none [] Tryd.prog 24 dag_row_with.k (lB (bB (sL (sR (body Tryd.f51))))) dag_row_with.u1 Q [(0, .slice A_r3 n_r3 c_r3), (1, .int .i64 n4), (4, .slice A_t45 n_t45 c_t45)] w) = dag_row_with.B1 A_r3 n_r3 c_r3 n4 A_t45 n_t45 c_t45 Q w := by kernel_rfl
theorem dag_row_with.loop1 {n4 : Int} {A_t45 : Option Addr} {n_t45 : Nat} {c_t45 : Nat} (I : (Option Addr) × Nat × Nat → World → Prop) (μ : (Option Addr) × Nat × Nat → World → Nat) (s : (Option Addr) × Nat × Nat) {Q : Post} {w : World} (h0 : I s w)
    (round : ∀ s w, I s w → dag_row_with.B1 (s.1) (s.2.1) (s.2.2) n4 A_t45 n_t45 c_t45 (roundQ (dag_row_with.e1 n4 A_t45 n_t45 c_t45) I μ s w Q) w) : Holds none [] Tryd.prog 24 (.loop (lB (bB (sL (sR (body Tryd.f51)))))) Q (dag_row_with.e1 n4 A_t45 n_t45 c_t45 s) w :=
  loop_of_eq ng mix (dag_row_with.e1 n4 A_t45 n_t45 c_t45) I μ dag_row_with.k dag_row_with.u1 s (fun s Q w => dag_row_with.B1 (s.1) (s.2.1) (s.2.2) n4 A_t45 n_t45 c_t45 Q w) (fun s Q w => dag_row_with.b1 (s.1) (s.2.1) (s.2.2) n4 A_t45 n_t45 c_t45 Q w) h0 round
def dag_row_with.X1_0 (A_r9 : Option Addr) (n_r9 : Nat) (c_r9 : Nat) (n10 : Int) (A_t411 : Option Addr) (n_t411 : Nat) (c_t411 : Nat) (K : Value → World → Prop) (w : World) : Prop :=
  let w_12 : World := w.drew; (64 : Int) ≠ 0 ∧ (0 ≤ (IntKind.i64.wrap (n10.tdiv (64 : Int))) ∧ (IntKind.i64.wrap (n10.tdiv (64 : Int))) < (n_r9 : Int)) ∧ Is A_r9 fun a13 : Addr => ∃ t1714 : Int, w_12.cell? (a13.add ((IntKind.i64.wrap (n10.tdiv (64 : Int))).toNat * 1)) = some (.int .u64 t1714) ∧ (64 : Int) ≠ 0 ∧ 0 ≤ (n10.tmod (64 : Int)) ∧ (0 ≤ (IntKind.i64.wrap (n10.tdiv (64 : Int))) ∧ (IntKind.i64.wrap (n10.tdiv (64 : Int))) < (n_r9 : Int)) ∧ Is A_r9 fun a15 : Addr => Wr w_12 (a15.add ((IntKind.i64.wrap (n10.tdiv (64 : Int))).toNat * 1)) ∧ let w_16 : World := w_12.setCell (a15.add ((IntKind.i64.wrap (n10.tdiv (64 : Int))).toNat * 1)) (.int .u64 (IntKind.u64.wrap ((BitVec.ofInt 64 t1714 ||| BitVec.ofInt 64 (IntKind.u64.wrap ((1 : Int) * 2 ^ (min (n10.tmod (64 : Int)).toNat 64)))).toNat))); K (.slice A_r9 n_r9 c_r9) w_16
theorem dag_row_with.x1_0 (A_r9 : Option Addr) (n_r9 : Nat) (c_r9 : Nat) (n10 : Int) (A_t411 : Option Addr) (n_t411 : Nat) (c_t411 : Nat) (K : Value → World → Prop) (w : World) : (dag_row_with.q1 K (.exit 0) [(0, .slice A_r9 n_r9 c_r9), (1, .int .i64 n10), (4, .slice A_t411 n_t411 c_t411)] w) = dag_row_with.X1_0 A_r9 n_r9 c_r9 n10 A_t411 n_t411 c_t411 K w := by kernel_rfl
/-! ### 53: (*plexus/dag.Graph).Tips$1 -/
def dag_Graph_Tips_fn1.k : List Nat := []
def dag_Graph_Tips_fn1.W (_1 : Int) (n2 : Option Addr) (K : Value → World → Prop) (w : World) : Prop :=
  Is n2 fun a3 : Addr => ∃ A_t84 : Option Addr, ∃ n_t84 : Nat, ∃ c_t84 : Nat, w.cell? (a3.add 33) = some (.slice A_t84 n_t84 c_t84) ∧ K (.bool ((n_t84 : Int) == (0 : Int))) w
theorem dag_Graph_Tips_fn1.s (_1 : Int) (n2 : Option Addr) (K : Value → World → Prop) (w : World) : (codeW none [] Tryd.prog Tryd.f53.ntmps dag_Graph_Tips_fn1.k (body Tryd.f53) (resSlots Tryd.f53) (funQ Tryd.prog Tryd.f53 K) (argEnv [.int .i64 _1, .pointer n2] 0) w) = dag_Graph_Tips_fn1.W _1 n2 K w := by kernel_rfl
theorem dag_Graph_Tips_fn1.of {_1 : Int} {n2 : Option Addr} {K : Value → World → Prop} {w : World} (h : dag_Graph_Tips_fn1.W _1 n2 K w) : Ret Tryd.prog 53 #[.int .i64 _1, .pointer n2] w K :=
  ret_of_eq (C := dag_Graph_Tips_fn1.k) (fn := Tryd.f53) (c := body Tryd.f53) ng mix Tryd.func53 (by kernel_rfl) (by kernel_rfl) (dag_Graph_Tips_fn1.s _1 n2 K w) h
/-! ### 56: slices.Compact[[]plexus/api.Hash,plexus/api.Hash] -/
def slices_Compact_of_api_Hash.k : List Nat := []
def slices_Compact_of_api_Hash.q1 (K : Value → World → Prop) : Post := (blockQ 0 (uses (sR (sR (sR (body Tryd.f56)))) ++ (resSlots Tryd.f56)) (thenQ (fun ρ_ w_ => match cutAt slices_Compact_of_api_Hash.k (sR (sR (sR (body Tryd.f56)))) with | true => Holds none [] Tryd.prog 61 (sR (sR (sR (body Tryd.f56)))) (funQ Tryd.prog Tryd.f56 K) ρ_ w_ | false => codeW none [] Tryd.prog 61 slices_Compact_of_api_Hash.k (sR (sR (sR (body Tryd.f56)))) (resSlots Tryd.f56) (funQ Tryd.prog Tryd.f56 K) ρ_ w_) (funQ Tryd.prog Tryd.f56 K)))
def slices_Compact_of_api_Hash.e1 (A_s2 : Option Addr) (n_s2 : Nat) (c_s2 : Nat) (s : (Option Addr) × Nat × Nat × Int) : Env := [(0, .slice A_s2 n_s2 c_s2), (2, .slice s.1 s.2.1 s.2.2.1), (3, .int .i64 s.2.2.2)]
def slices_Compact_of_api_Hash.u1 : List Nat := [0, 2, 3]
def slices_Compact_of_api_Hash.q2 (Q : Post) : Post := (blockQ 2 (uses (sR (sR (cT (sR (bB (sL (sR (lB (bB (sR (sL (sR (sR (body Tryd.f56)))))))))))))) ++ (uses (sR (sR (lB (bB (sR (sL (sR (sR (body Tryd.f56))))))))) ++ slices_Compact_of_api_Hash.u1)) (thenQ (fun ρ_ w_ => match cutAt slices_Compact_of_api_Hash.k (sR (sR (cT (sR (bB (sL (sR (lB (bB (sR (sL (sR (sR (body Tryd.f56)))))))))))))) with | true => Holds none [] Tryd.prog 61 (sR (sR (cT (sR (bB (sL (sR (lB (bB (sR (sL (sR (sR (body Tryd.f56)))))))))))))) (blockQ 1 (uses (sR (sR (lB (bB (sR (sL (sR (sR (body Tryd.f56))))))))) ++ slices_Compact_of_api_Hash.u1) (thenQ (fun ρ_ w_ => match cutAt slices_Compact_of_api_Hash.k (sR (sR (lB (bB (sR (sL (sR (sR (body Tryd.f56))))))))) with | true => Holds none [] Tryd.prog 61 (sR (sR (lB (bB (sR (sL (sR (sR (body Tryd.f56))))))))) Q ρ_ w_ | false => codeW none [] Tryd.prog 61 slices_Compact_of_api_Hash.k (sR (sR (lB (bB (sR (sL (sR (sR (body Tryd.f56))))))))) slices_Compact_of_api_Hash.u1 Q ρ_ w_) Q)) ρ_ w_ | false => codeW none [] Tryd.prog 61 slices_Compact_of_api_Hash.k (sR (sR (cT (sR (bB (sL (sR (lB (bB (sR (sL (sR (sR (body Tryd.f56)))))))))))))) (uses (sR (sR (lB (bB (sR (sL (sR (sR (body Tryd.f56))))))))) ++ slices_Compact_of_api_Hash.u1) (blockQ 1 (uses (sR (sR (lB (bB (sR (sL (sR (sR (body Tryd.f56))))))))) ++ slices_Compact_of_api_Hash.u1) (thenQ (fun ρ_ w_ => match cutAt slices_Compact_of_api_Hash.k (sR (sR (lB (bB (sR (sL (sR (sR (body Tryd.f56))))))))) with | true => Holds none [] Tryd.prog 61 (sR (sR (lB (bB (sR (sL (sR (sR (body Tryd.f56))))))))) Q ρ_ w_ | false => codeW none [] Tryd.prog 61 slices_Compact_of_api_Hash.k (sR (sR (lB (bB (sR (sL (sR (sR (body Tryd.f56))))))))) slices_Compact_of_api_Hash.u1 Q ρ_ w_) Q)) ρ_ w_) (blockQ 1 (uses (sR (sR (lB (bB (sR (sL (sR (sR (body Tryd.f56))))))))) ++ slices_Compact_of_api_Hash.u1) (thenQ (fun ρ_ w_ => match cutAt slices_Compact_of_api_Hash.k (sR (sR (lB (bB (sR (sL (sR (sR (body Tryd.f56))))))))) with | true => Holds none [] Tryd.prog 61 (sR (sR (lB (bB (sR (sL (sR (sR (body Tryd.f56))))))))) Q ρ_ w_ | false => codeW none [] Tryd.prog 61 slices_Compact_of_api_Hash.k (sR (sR (lB (bB (sR (sL (sR (sR (body Tryd.f56))))))))) slices_Compact_of_api_Hash.u1 Q ρ_ w_) Q))))
def slices_Compact_of_api_Hash.e2 (A_s13 : Option Addr) (n_s13 : Nat) (c_s13 : Nat) (A_t214 : Option Addr) (n_t214 : Nat) (c_t214 : Nat) (A_s216 : Option Addr) (n_s216 : Nat) (c_s216 : Nat) (s : Int × Int) : Env := [(0, .slice A_s13 n_s13 c_s13), (2, .slice A_t214 n_t214 c_t214), (3, .int .i64 s.1), (4, .slice A_s216 n_s216 c_s216), (5, .int .i64 s.2)]
def slices_Compact_of_api_Hash.u2 : List Nat := [0, 2, 3, 4, 5]
def slices_Compact_of_api_Hash.W (A_s1 : Option Addr) (n_s1 : Nat) (c_s1 : Nat) (K : Value → World → Prop) (w : World) : Prop :=
  Split (decide ((n_s1 : Int) < (2 : Int))) (K (.slice A_s1 n_s1 c_s1) w) (Holds none [] Tryd.prog 61 (.loop (lB (bB (sR (sL (sR (sR (body Tryd.f56)))))))) (slices_Compact_of_api_Hash.q1 K) [(0, .slice A_s1 n_s1 c_s1), (2, .slice none 0 0), (3, .int .i64 1)] w)
theorem slices_Compact_of_api_Hash.s (A_s1 : Option Addr) (n_s1 : Nat) (c_s1 : Nat) (K : Value → World → Prop) (w : World) : (codeW none [] Tryd.prog Tryd.f56.ntmps slices_Compact_of_api_Hash.k (body Tryd.f56) (resSlots Tryd.f56) (funQ Tryd.prog Tryd.f56 K) (argEnv [.slice A_s1 n_s1 c_s1] 0) w) = slices_Compact_of_api_Hash.W A_s1 n_s1 c_s1 K w := by kernel_rfl
theorem slices_Compact_of_api_Hash.of {A_s1 : Option Addr} {n_s1 : Nat} {c_s1 : Nat} {K : Value → World → Prop} {w : World} (h : slices_Compact_of_api_Hash.W A_s1 n_s1 c_s1 K w) : Ret Tryd.prog 56 #[.slice A_s1 n_s1 c_s1] w K :=
  ret_of_eq (C := slices_Compact_of_api_Hash.k) (fn := Tryd.f56) (c := body Tryd.f56) ng mix Tryd.func56 (by kernel_rfl) (by kernel_rfl) (slices_Compact_of_api_Hash.s A_s1 n_s1 c_s1 K w) h
def slices_Compact_of_api_Hash.B1 (A_s2 : Option Addr) (n_s2 : Nat) (c_s2 : Nat) (A_t23 : Option Addr) (n_t23 : Nat) (c_t23 : Nat) (k4 : Int) (Q : Post) (w : World) : Prop :=
  Split (decide (k4 < (n_s2 : Int))) (let w_5 : World := w.drew; (0 ≤ k4 ∧ k4 < (n_s2 : Int)) ∧ Is A_s2 fun a6 : Addr => ∃ t197 : Array Value, (t197.size = 32 ∧ Cells w_5 (a6.add (k4.toNat * 32)) t197) ∧ (0 ≤ (IntKind.i64.wrap (k4 - (1 : Int))) ∧ (IntKind.i64.wrap (k4 - (1 : Int))) < (n_s2 : Int)) ∧ Is A_s2 fun a8 : Addr => ∃ t249 : Array Value, (t249.size = 32 ∧ Cells w_5 (a8.add ((IntKind.i64.wrap (k4 - (1 : Int))).toNat * 32)) t249) ∧ (isInts .u8 32 t197 ∧ isInts .u8 32 t249) ∧ Split (sameInts t197 t249) ((0 ≤ k4 ∧ k4 ≤ (n_s2 : Int)) ∧ Holds none [] Tryd.prog 61 (.loop (lB (bB (sR (sL (sR (cT (sR (bB (sL (sR (lB (bB (sR (sL (sR (sR (body Tryd.f56)))))))))))))))))) (slices_Compact_of_api_Hash.q2 Q) [(0, .slice A_s2 n_s2 c_s2), (2, .slice A_t23 n_t23 c_t23), (3, .int .i64 k4), (4, .slice (if c_s2 = k4.toNat then A_s2 else A_s2.map (·.add (k4.toNat * 32))) (n_s2 - k4.toNat) (c_s2 - k4.toNat)), (5, .int .i64 1)] w_5) (Q .normal [(0, .slice A_s2 n_s2 c_s2), (2, .slice A_t23 n_t23 c_t23), (3, .int .i64 (IntKind.i64.wrap (k4 + (1 : Int))))] w_5)) (Q (.exit 0) [(0, .slice A_s2 n_s2 c_s2), (2, .slice A_t23 n_t23 c_t23), (3, .int .i64 k4)] w)
theorem slices_Compact_of_api_Hash.b1 (A_s2 : Option Addr) (n_s2 : Nat) (c_s2 : Nat) (A_t23 : Option Addr) (n_t23 : Nat) (c_t23 : Nat) (k4 : Int) (Q : Post) (w : World) : (codeW none [] Tryd.prog 61 slices_Compact_of_api_Hash.k (lB (bB (sR (sL (sR (sR (body Tryd.f56))))))) slices_Compact_of_api_Hash.u1 Q [(0, .slice A_s2 n_s2 c_s2), (2, .slice A_t23 n_t23 c_t23), (3, .int .i64 k4)] w) = slices_Compact_of_api_Hash.B1 A_s2 n_s2 c_s2 A_t23 n_t23 c_t23 k4 Q w := by kernel_rfl
theorem slices_Compact_of_api_Hash.loop1 {A_s2 : Option Addr} {n_s2 : Nat} {c_s2 : Nat} (I : (Option Addr) × Nat × Nat × Int → World → Prop) (μ : (Option Addr) × Nat × Nat × Int → World → Nat) (s : (Option Addr) × Nat × Nat × Int) {Q : Post} {w : World} (h0 : I s w)
    (round : ∀ s w, I s w → slices_Compact_of_api_Hash.B1 A_s2 n_s2 c_s2 (s.1) (s.2.1) (s.2.2.1) (s.2.2.2) (roundQ (slices_Compact_of_api_Hash.e1 A_s2 n_s2 c_s2) I μ s w Q) w) : Holds none [] Tryd.prog 61 (.loop (lB (bB (sR (sL (sR (sR (body Tryd.f56)))))))) Q (slices_Compact_of_api_Hash.e1 A_s2 n_s2 c_s2 s) w :=
  loop_of_eq ng mix (slices_Compact_of_api_Hash.e1 A_s2 n_s2 c_s2) I μ slices_Compact_of_api_Hash.k slices_Compact_of_api_Hash.u1 s (fun s Q w => slices_Compact_of_api_Hash.B1 A_s2 n_s2 c_s2 (s.1) (s.2.1) (s.2.2.1) (s.2.2.2) Q w) (fun s Q w => slices_Compact_of_api_Hash.b1 A_s2 n_s2 c_s2 (s.1) (s.2.1) (s.2.2.1) (s.2.2.2) Q w) h0 round
def slices_Compact_of_api_Hash.X1_0 (A_s10 : Option Addr) (n_s10 : Nat) (c_s10 : Nat) (A_t211 : Option Addr) (n_t211 : Nat) (c_t211 : Nat) (k12 : Int) (K : Value → World → Prop) (w : World) : Prop :=
  K (.slice A_s10 n_s10 c_s10) w
theorem slices_Compact_of_api_Hash.x1_0 (A_s10 : Option Addr) (n_s10 : Nat) (c_s10 : Nat) (A_t211 : Option Addr) (n_t211 : Nat) (c_t211 : Nat) (k12 : Int) (K : Value → World → Prop) (w : World) : (slices_Compact_of_api_Hash.q1 K (.exit 0) [(0, .slice A_s10 n_s10 c_s10), (2, .slice A_t211 n_t211 c_t211), (3, .int .i64 k12)] w) = slices_Compact_of_api_Hash.X1_0 A_s10 n_s10 c_s10 A_t211 n_t211 c_t211 k12 K w := by kernel_rfl
def slices_Compact_of_api_Hash.B2 (A_s13 : Option Addr) (n_s13 : Nat) (c_s13 : Nat) (A_t214 : Option Addr) (n_t214 : Nat) (c_t214 : Nat) (k15 : Int) (A_s216 : Option Addr) (n_s216 : Nat) (c_s216 : Nat) (k217 : Int) (Q : Post) (w : World) : Prop :=
  Split (decide (k217 < (n_s216 : Int))) (let w_18 : World := w.drew; (0 ≤ k217 ∧ k217 < (n_s216 : Int)) ∧ Is A_s216 fun a19 : Addr => ∃ t3820 : Array Value, (t3820.size = 32 ∧ Cells w_18 (a19.add (k217.toNat * 32)) t3820) ∧ (0 ≤ (IntKind.i64.wrap (k217 - (1 : Int))) ∧ (IntKind.i64.wrap (k217 - (1 : Int))) < (n_s216 : Int)) ∧ Is A_s216 fun a21 : Addr => ∃ t4322 : Array Value, (t4322.size = 32 ∧ Cells w_18 (a21.add ((IntKind.i64.wrap (k217 - (1 : Int))).toNat * 32)) t4322) ∧ (isInts .u8 32 t3820 ∧ isInts .u8 32 t4322) ∧ Split (!(sameInts t3820 t4322)) ((0 ≤ k217 ∧ k217 < (n_s216 : Int)) ∧ Is A_s216 fun a23 : Addr => ∃ t5024 : Array Value, (t5024.size = 32 ∧ Cells w_18 (a23.add (k217.toNat * 32)) t5024) ∧ (0 ≤ k15 ∧ k15 < (n_s13 : Int)) ∧ Is A_s13 fun a25 : Addr => (t5024.size = 32 ∧ (∀ c26 ∈ t5024.toList, c26.oneCell' = true) ∧ ∀ j27, j27 < 32 → Wr w_18 ((a25.add (k15.toNat * 32)).add j27)) ∧ let w_28 : World := setCells w_18 (a25.add (k15.toNat * 32)) t5024.toList 0; Q .normal [(0, .slice A_s13 n_s13 c_s13), (2, .slice A_t214 n_t214 c_t214), (3, .int .i64 (IntKind.i64.wrap (k15 + (1 : Int)))), (4, .slice A_s216 n_s216 c_s216), (5, .int .i64 (IntKind.i64.wrap (k217 + (1 : Int))))] w_28) (Q .normal [(0, .slice A_s13 n_s13 c_s13), (2, .slice A_t214 n_t214 c_t214), (3, .int .i64 k15), (4, .slice A_s216 n_s216 c_s216), (5, .int .i64 (IntKind.i64.wrap (k217 + (1 : Int))))] w_18)) (Q (.exit 2) [(0, .slice A_s13 n_s13 c_s13), (2, .slice A_t214 n_t214 c_t214), (3, .int .i64 k15), (4, .slice A_s216 n_s216 c_s216), (5, .int .i64 k217)] w)
theorem slices_Compact_of_api_Hash.b2 (A_s13 : Option Addr) (n_s13 : Nat) (c_s13 : Nat) (A_t214 : Option Addr) (n_t214 : Nat) (c_t214 : Nat) (k15 : Int) (A_s216 : Option Addr) (n_s216 : Nat) (c_s216 : Nat) (k217 : Int) (Q : Post) (w : World) : (codeW none [] Tryd.prog 61 slices_Compact_of_api_Hash.k (lB (bB (sR (sL (sR (cT (sR (bB (sL (sR (lB (bB (sR (sL (sR (sR (body Tryd.f56))))))))))))))))) slices_Compact_of_api_Hash.u2 Q [(0, .slice A_s13 n_s13 c_s13), (2, .slice A_t214 n_t214 c_t214), (3, .int .i64 k15), (4, .slice A_s216 n_s216 c_s216), (5, .int .i64 k217)] w) = slices_Compact_of_api_Hash.B2 A_s13 n_s13 c_s13 A_t214 n_t214 c_t214 k15 A_s216 n_s216 c_s216 k217 Q w := by kernel_rfl
theorem slices_Compact_of_api_Hash.loop2 {A_s13 : Option Addr} {n_s13 : Nat} {c_s13 : Nat} {A_t214 : Option Addr} {n_t214 : Nat} {c_t214 : Nat} {A_s216 : Option Addr} {n_s216 : Nat} {c_s216 : Nat} (I : Int × Int → World → Prop) (μ : Int × Int → World → Nat) (s : Int × Int) {Q : Post} {w : World} (h0 : I s w)
    (round : ∀ s w, I s w → slices_Compact_of_api_Hash.B2 A_s13 n_s13 c_s13 A_t214 n_t214 c_t214 (s.1) A_s216 n_s216 c_s216 (s.2) (roundQ (slices_Compact_of_api_Hash.e2 A_s13 n_s13 c_s13 A_t214 n_t214 c_t214 A_s216 n_s216 c_s216) I μ s w Q) w) : Holds none [] Tryd.prog 61 (.loop (lB (bB (sR (sL (sR (cT (sR (bB (sL (sR (lB (bB (sR (sL (sR (sR (body Tryd.f56)))))))))))))))))) Q (slices_Compact_of_api_Hash.e2 A_s13 n_s13 c_s13 A_t214 n_t214 c_t214 A_s216 n_s216 c_s216 s) w :=
  loop_of_eq ng mix (slices_Compact_of_api_Hash.e2 A_s13 n_s13 c_s13 A_t214 n_t214 c_t214 A_s216 n_s216 c_s216) I μ slices_Compact_of_api_Hash.k slices_Compact_of_api_Hash.u2 s (fun s Q w => slices_Compact_of_api_Hash.B2 A_s13 n_s13 c_s13 A_t214 n_t214 c_t214 (s.1) A_s216 n_s216 c_s216 (s.2) Q w) (fun s Q w => slices_Compact_of_api_Hash.b2 A_s13 n_s13 c_s13 A_t214 n_t214 c_t214 (s.1) A_s216 n_s216 c_s216 (s.2) Q w) h0 round
def slices_Compact_of_api_Hash.X2_2 (A_s29 : Option Addr) (n_s29 : Nat) (c_s29 : Nat) (A_t230 : Option Addr) (n_t230 : Nat) (c_t230 : Nat) (k31 : Int) (A_s232 : Option Addr) (n_s232 : Nat) (c_s232 : Nat) (k233 : Int) (Q : Post) (w : World) : Prop :=
  (0 ≤ k31 ∧ k31 ≤ (n_s29 : Int)) ∧ ∃ (v34 : Value) (w_35 : World), (Builtin.clear_ #[25] 0 #[.slice (if c_s29 = k31.toNat then A_s29 else A_s29.map (·.add (k31.toNat * 32))) (n_s29 - k31.toNat) (c_s29 - k31.toNat)]).run Tryd.prog w = .ok v34 w_35 ∧ (0 ≤ k31 ∧ k31 ≤ (c_s29 : Int)) ∧ Q .ret [(0, .slice A_s29 n_s29 c_s29), (2, .slice (if c_s29 = 0 then A_s29 else A_s29.map (·.add (0 * 32))) (k31.toNat - 0) (c_s29 - 0)), (3, .int .i64 k31)] w_35
theorem slices_Compact_of_api_Hash.x2_2 (A_s29 : Option Addr) (n_s29 : Nat) (c_s29 : Nat) (A_t230 : Option Addr) (n_t230 : Nat) (c_t230 : Nat) (k31 : Int) (A_s232 : Option Addr) (n_s232 : Nat) (c_s232 : Nat) (k233 : Int) (Q : Post) (w : World) : (slices_Compact_of_api_Hash.q2 Q (.exit 2) [(0, .slice A_s29 n_s29 c_s29), (2, .slice A_t230 n_t230 c_t230), (3, .int .i64 k31), (4, .slice A_s232 n_s232 c_s232), (5, .int .i64 k233)] w) = slices_Compact_of_api_Hash.X2_2 A_s29 n_s29 c_s29 A_t230 n_t230 c_t230 k31 A_s232 n_s232 c_s232 k233 Q w := by kernel_rfl
/-! ### 59: plexus/dag.Compare -/
def dag_Compare.k : List Nat := []
def dag_Compare.W (a1 : Array Value) (b2 : Array Value) (K : Value → World → Prop) (w : World) : Prop :=
  let w_3 : World := w.alloc (.cells a1 23); let w_4 : World := w_3.alloc (.cells b2 23); let w_5 : World := w_4.drew; Ret Tryd.prog 67 #[.slice (some (if 32 = 0 then (⟨w.heap.size, 0, none⟩ : Addr) else (⟨w.heap.size, 0, none⟩ : Addr).add (0 * 1))) (32 - 0) (32 - 0), .slice (some (if 32 = 0 then (⟨w_3.heap.size, 0, none⟩ : Addr) else (⟨w_3.heap.size, 0, none⟩ : Addr).add (0 * 1))) (32 - 0) (32 - 0)] w_5 fun v6 w_7 => ∃ t78 : Int, v6 = .int .i64 t78 ∧ K (.int .i64 t78) w_7
theorem dag_Compare.s (a1 : Array Value) (b2 : Array Value) (K : Value → World → Prop) (w : World) : (codeW none [] Tryd.prog Tryd.f59.ntmps dag_Compare.k (body Tryd.f59) (resSlots Tryd.f59) (funQ Tryd.prog Tryd.f59 K) (argEnv [.agg a1, .agg b2] 0) w) = dag_Compare.W a1 b2 K w := by kernel_rfl
theorem dag_Compare.of {a1 : Array Value} {b2 : Array Value} {K : Value → World → Prop} {w : World} (h : dag_Compare.W a1 b2 K w) : Ret Tryd.prog 59 #[.agg a1, .agg b2] w K :=
  ret_of_eq (C := dag_Compare.k) (fn := Tryd.f59) (c := body Tryd.f59) ng mix Tryd.func59 (by kernel_rfl) (by kernel_rfl) (dag_Compare.s a1 b2 K w) h
/-! ### 67: bytes.Compare -/
def bytes_Compare.k : List Nat := []
def bytes_Compare.W (A_a1 : Option Addr) (n_a1 : Nat) (c_a1 : Nat) (A_b2 : Option Addr) (n_b2 : Nat) (c_b2 : Nat) (K : Value → World → Prop) (w : World) : Prop :=
  ExtCall Tryd.prog 71 #[.slice A_a1 n_a1 c_a1, .slice A_b2 n_b2 c_b2] w fun v3 w_4 => ∃ t75 : Int, v3 = .int .i64 t75 ∧ K (.int .i64 t75) w_4
theorem bytes_Compare.s (A_a1 : Option Addr) (n_a1 : Nat) (c_a1 : Nat) (A_b2 : Option Addr) (n_b2 : Nat) (c_b2 : Nat) (K : Value → World → Prop) (w : World) : (codeW none [] Tryd.prog Tryd.f67.ntmps bytes_Compare.k (body Tryd.f67) (resSlots Tryd.f67) (funQ Tryd.prog Tryd.f67 K) (argEnv [.slice A_a1 n_a1 c_a1, .slice A_b2 n_b2 c_b2] 0) w) = bytes_Compare.W A_a1 n_a1 c_a1 A_b2 n_b2 c_b2 K w := by kernel_rfl
theorem bytes_Compare.of {A_a1 : Option Addr} {n_a1 : Nat} {c_a1 : Nat} {A_b2 : Option Addr} {n_b2 : Nat} {c_b2 : Nat} {K : Value → World → Prop} {w : World} (h : bytes_Compare.W A_a1 n_a1 c_a1 A_b2 n_b2 c_b2 K w) : Ret Tryd.prog 67 #[.slice A_a1 n_a1 c_a1, .slice A_b2 n_b2 c_b2] w K :=
  ret_of_eq (C := bytes_Compare.k) (fn := Tryd.f67) (c := body Tryd.f67) ng mix Tryd.func67 (by kernel_rfl) (by kernel_rfl) (bytes_Compare.s A_a1 n_a1 c_a1 A_b2 n_b2 c_b2 K w) h
/-! ### 38: (*plexus/dag.Graph).pick -/
def dag_Graph_pick__dag_Graph_Tips_fn1.k : List Nat := []
def dag_Graph_pick__dag_Graph_Tips_fn1.q1 (K : Value → World → Prop) : Post := (blockQ 0 (uses (sR (sR (sR (body Tryd.f38)))) ++ (resSlots Tryd.f38)) (thenQ (fun ρ_ w_ => match cutAt dag_Graph_pick__dag_Graph_Tips_fn1.k (sR (sR (sR (body Tryd.f38)))) with | true => Holds none [] Tryd.prog 34 (sR (sR (sR (body Tryd.f38)))) (funQ Tryd.prog Tryd.f38 K) ρ_ w_ | false => codeW none [] Tryd.prog 34 dag_Graph_pick__dag_Graph_Tips_fn1.k (sR (sR (sR (body Tryd.f38)))) (resSlots Tryd.f38) (funQ Tryd.prog Tryd.f38 K) ρ_ w_) (funQ Tryd.prog Tryd.f38 K)))
def dag_Graph_pick__dag_Graph_Tips_fn1.e1 (A_t410 : Option Addr) (n_t410 : Nat) (c_t410 : Nat) (A_t1312 : Option Addr) (n_t1312 : Nat) (c_t1312 : Nat) (t1413 : Int) (s : (Option Addr) × Nat × Nat × Int) : Env := [(1, .func (.func 53) #[] #[]), (4, .slice A_t410 n_t410 c_t410), (5, .slice s.1 s.2.1 s.2.2.1), (13, .slice A_t1312 n_t1312 c_t1312), (14, .int .i64 t1413), (15, .int .i64 s.2.2.2)]
def dag_Graph_pick__dag_Graph_Tips_fn1.u1 : List Nat := [1, 4, 5, 13, 14, 15]
def dag_Graph_pick__dag_Graph_Tips_fn1.W (g1 : Option Addr) (K : Value → World → Prop) (w : World) : Prop :=
  Ret Tryd.prog 41 #[.pointer g1] w fun v2 w_3 => ∃ t94 : Bool, v2 = .bool t94 ∧ Split t94 (Is g1 fun a5 : Addr => ∃ A_t136 : Option Addr, ∃ n_t136 : Nat, ∃ c_t136 : Nat, w_3.cell? (a5.add 0) = some (.slice A_t136 n_t136 c_t136) ∧ Holds none [] Tryd.prog 34 (.loop (lB (bB (sR (cT (sR (sL (sR (sR (body Tryd.f38)))))))))) (dag_Graph_pick__dag_Graph_Tips_fn1.q1 K) [(1, .func (.func 53) #[] #[]), (4, .slice none 0 0), (5, .slice none 0 0), (13, .slice A_t136 n_t136 c_t136), (14, .int .i64 (n_t136 : Int)), (15, .int .i64 0)] w_3) (Ret Tryd.prog 37 #[.slice none 0 0] w_3 fun v7 w_8 => ∃ A_t339 : Option Addr, ∃ n_t339 : Nat, ∃ c_t339 : Nat, v7 = .slice A_t339 n_t339 c_t339 ∧ K (.slice A_t339 n_t339 c_t339) w_8)
theorem dag_Graph_pick__dag_Graph_Tips_fn1.s (g1 : Option Addr) (K : Value → World → Prop) (w : World) : (codeW none [] Tryd.prog Tryd.f38.ntmps dag_Graph_pick__dag_Graph_Tips_fn1.k (body Tryd.f38) (resSlots Tryd.f38) (funQ Tryd.prog Tryd.f38 K) (argEnv [.pointer g1, .func (.func 53) #[] #[]] 0) w) = dag_Graph_pick__dag_Graph_Tips_fn1.W g1 K w := by kernel_rfl
theorem dag_Graph_pick__dag_Graph_Tips_fn1.of {g1 : Option Addr} {K : Value → World → Prop} {w : World} (h : dag_Graph_pick__dag_Graph_Tips_fn1.W g1 K w) : Ret Tryd.prog 38 #[.pointer g1, .func (.func 53) #[] #[]] w K :=
  ret_of_eq (C := dag_Graph_pick__dag_Graph_Tips_fn1.k) (fn := Tryd.f38) (c := body Tryd.f38) ng mix Tryd.func38 (by kernel_rfl) (by kernel_rfl) (dag_Graph_pick__dag_Graph_Tips_fn1.s g1 K w) h
def dag_Graph_pick__dag_Graph_Tips_fn1.B1 (A_t410 : Option Addr) (n_t410 : Nat) (c_t410 : Nat) (A_out11 : Option Addr) (n_out11 : Nat) (c_out11 : Nat) (A_t1312 : Option Addr) (n_t1312 : Nat) (c_t1312 : Nat) (t1413 : Int) (t1514 : Int) (Q : Post) (w : World) : Prop :=
  Split (decide (t1514 < t1413)) ((0 ≤ t1514 ∧ t1514 < (n_t1312 : Int)) ∧ Is A_t1312 fun a15 : Addr => ∃ t1916 : Option Addr, w.cell? (a15.add (t1514.toNat * 1)) = some (.pointer t1916) ∧ Ret Tryd.prog 53 #[.int .i64 t1514, .pointer t1916] w fun v17 w_18 => ∃ t2319 : Bool, v17 = .bool t2319 ∧ Split t2319 (Is t1916 fun a20 : Addr => ∃ t2821 : Array Value, (t2821.size = 32 ∧ Cells w_18 (a20.add 0) t2821) ∧ t2821.size = 32 ∧ let w_22 : World := w_18.alloc (.cells (t2821.toList ++ []).toArray 23); ∃ (A_t3023 : Option Addr) (n_t3023 c_t3023 : Nat) (w_24 : World), (Builtin.append_ #[25, 25] 25 #[.slice A_out11 n_out11 c_out11, .slice (some (⟨w_18.heap.size, 0, none⟩ : Addr)) 1 1]).run Tryd.prog w_22 = .ok (.slice A_t3023 n_t3023 c_t3023) w_24 ∧ Q .normal [(1, .func (.func 53) #[] #[]), (4, .slice A_t410 n_t410 c_t410), (5, .slice A_t3023 n_t3023 c_t3023), (13, .slice A_t1312 n_t1312 c_t1312), (14, .int .i64 t1413), (15, .int .i64 (IntKind.i64.wrap (t1514 + (1 : Int))))] w_24) (Q .normal [(1, .func (.func 53) #[] #[]), (4, .slice A_t410 n_t410 c_t410), (5, .slice A_out11 n_out11 c_out11), (13, .slice A_t1312 n_t1312 c_t1312), (14, .int .i64 t1413), (15, .int .i64 (IntKind.i64.wrap (t1514 + (1 : Int))))] w_18)) (Q (.exit 0) [(1, .func (.func 53) #[] #[]), (4, .slice A_t410 n_t410 c_t410), (5, .slice A_out11 n_out11 c_out11), (13, .slice A_t1312 n_t1312 c_t1312), (14, .int .i64 t1413), (15, .int .i64 t1514)] w)
theorem dag_Graph_pick__dag_Graph_Tips_fn1.b1 (A_t410 : Option Addr) (n_t410 : Nat) (c_t410 : Nat) (A_out11 : Option Addr) (n_out11 : Nat) (c_out11 : Nat) (A_t1312 : Option Addr) (n_t1312 : Nat) (c_t1312 : Nat) (t1413 : Int) (t1514 : Int) (Q : Post) (w : World) : (codeW none [] Tryd.prog 34 dag_Graph_pick__dag_Graph_Tips_fn1.k (lB (bB (sR (cT (sR (sL (sR (sR (body Tryd.f38))))))))) dag_Graph_pick__dag_Graph_Tips_fn1.u1 Q [(1, .func (.func 53) #[] #[]), (4, .slice A_t410 n_t410 c_t410), (5, .slice A_out11 n_out11 c_out11), (13, .slice A_t1312 n_t1312 c_t1312), (14, .int .i64 t1413), (15, .int .i64 t1514)] w) = dag_Graph_pick__dag_Graph_Tips_fn1.B1 A_t410 n_t410 c_t410 A_out11 n_out11 c_out11 A_t1312 n_t1312 c_t1312 t1413 t1514 Q w := by kernel_rfl
theorem dag_Graph_pick__dag_Graph_Tips_fn1.loop1 {A_t410 : Option Addr} {n_t410 : Nat} {c_t410 : Nat} {A_t1312 : Option Addr} {n_t1312 : Nat} {c_t1312 : Nat} {t1413 : Int} (I : (Option Addr) × Nat × Nat × Int → World → Prop) (μ : (Option Addr) × Nat × Nat × Int → World → Nat) (s : (Option Addr) × Nat × Nat × Int) {Q : Post} {w : World} (h0 : I s w)
    (round : ∀ s w, I s w → dag_Graph_pick__dag_Graph_Tips_fn1.B1 A_t410 n_t410 c_t410 (s.1) (s.2.1) (s.2.2.1) A_t1312 n_t1312 c_t1312 t1413 (s.2.2.2) (roundQ (dag_Graph_pick__dag_Graph_Tips_fn1.e1 A_t410 n_t410 c_t410 A_t1312 n_t1312 c_t1312 t1413) I μ s w Q) w) : Holds none [] Tryd.prog 34 (.loop (lB (bB (sR (cT (sR (sL (sR (sR (body Tryd.f38)))))))))) Q (dag_Graph_pick__dag_Graph_Tips_fn1.e1 A_t410 n_t410 c_t410 A_t1312 n_t1312 c_t1312 t1413 s) w :=
  loop_of_eq ng mix (dag_Graph_pick__dag_Graph_Tips_fn1.e1 A_t410 n_t410 c_t410 A_t1312 n_t1312 c_t1312 t1413) I μ dag_Graph_pick__dag_Graph_Tips_fn1.k dag_Graph_pick__dag_Graph_Tips_fn1.u1 s (fun s Q w => dag_Graph_pick__dag_Graph_Tips_fn1.B1 A_t410 n_t410 c_t410 (s.1) (s.2.1) (s.2.2.1) A_t1312 n_t1312 c_t1312 t1413 (s.2.2.2) Q w) (fun s Q w => dag_Graph_pick__dag_Graph_Tips_fn1.b1 A_t410 n_t410 c_t410 (s.1) (s.2.1) (s.2.2.1) A_t1312 n_t1312 c_t1312 t1413 (s.2.2.2) Q w) h0 round
def dag_Graph_pick__dag_Graph_Tips_fn1.X1_0 (A_t425 : Option Addr) (n_t425 : Nat) (c_t425 : Nat) (A_out26 : Option Addr) (n_out26 : Nat) (c_out26 : Nat) (A_t1327 : Option Addr) (n_t1327 : Nat) (c_t1327 : Nat) (t1428 : Int) (t1529 : Int) (K : Value → World → Prop) (w : World) : Prop :=
  Ret Tryd.prog 37 #[.slice A_out26 n_out26 c_out26] w fun v30 w_31 => ∃ A_t3332 : Option Addr, ∃ n_t3332 : Nat, ∃ c_t3332 : Nat, v30 = .slice A_t3332 n_t3332 c_t3332 ∧ K (.slice A_t3332 n_t3332 c_t3332) w_31
theorem dag_Graph_pick__dag_Graph_Tips_fn1.x1_0 (A_t425 : Option Addr) (n_t425 : Nat) (c_t425 : Nat) (A_out26 : Option Addr) (n_out26 : Nat) (c_out26 : Nat) (A_t1327 : Option Addr) (n_t1327 : Nat) (c_t1327 : Nat) (t1428 : Int) (t1529 : Int) (K : Value → World → Prop) (w : World) : (dag_Graph_pick__dag_Graph_Tips_fn1.q1 K (.exit 0) [(1, .func (.func 53) #[] #[]), (4, .slice A_t425 n_t425 c_t425), (5, .slice A_out26 n_out26 c_out26), (13, .slice A_t1327 n_t1327 c_t1327), (14, .int .i64 t1428), (15, .int .i64 t1529)] w) = dag_Graph_pick__dag_Graph_Tips_fn1.X1_0 A_t425 n_t425 c_t425 A_out26 n_out26 c_out26 A_t1327 n_t1327 c_t1327 t1428 t1529 K w := by kernel_rfl
/-! ### 38: (*plexus/dag.Graph).pick -/
def dag_Graph_pick__dag_Graph_Future_fn1.k : List Nat := []
def dag_Graph_pick__dag_Graph_Future_fn1.q1 (K : Value → World → Prop) : Post := (blockQ 0 (uses (sR (sR (sR (body Tryd.f38)))) ++ (resSlots Tryd.f38)) (thenQ (fun ρ_ w_ => match cutAt dag_Graph_pick__dag_Graph_Future_fn1.k (sR (sR (sR (body Tryd.f38)))) with | true => Holds none [] Tryd.prog 34 (sR (sR (sR (body Tryd.f38)))) (funQ Tryd.prog Tryd.f38 K) ρ_ w_ | false => codeW none [] Tryd.prog 34 dag_Graph_pick__dag_Graph_Future_fn1.k (sR (sR (sR (body Tryd.f38)))) (resSlots Tryd.f38) (funQ Tryd.prog Tryd.f38 K) ρ_ w_) (funQ Tryd.prog Tryd.f38 K)))
def dag_Graph_pick__dag_Graph_Future_fn1.e1 (isc11 : Addr) (A_t412 : Option Addr) (n_t412 : Nat) (c_t412 : Nat) (A_t1314 : Option Addr) (n_t1314 : Nat) (c_t1314 : Nat) (t1415 : Int) (s : (Option Addr) × Nat × Nat × Int) : Env := [(1, .func (.func 39) #[] #[.pointer (some isc11)]), (4, .slice A_t412 n_t412 c_t412), (5, .slice s.1 s.2.1 s.2.2.1), (13, .slice A_t1314 n_t1314 c_t1314), (14, .int .i64 t1415), (15, .int .i64 s.2.2.2)]
def dag_Graph_pick__dag_Graph_Future_fn1.u1 : List Nat := [1, 4, 5, 13, 14, 15]
def dag_Graph_pick__dag_Graph_Future_fn1.W (g1 : Option Addr) (cap2 : Addr) (K : Value → World → Prop) (w : World) : Prop :=
  Ret Tryd.prog 41 #[.pointer g1] w fun v3 w_4 => ∃ t95 : Bool, v3 = .bool t95 ∧ Split t95 (Is g1 fun a6 : Addr => ∃ A_t137 : Option Addr, ∃ n_t137 : Nat, ∃ c_t137 : Nat, w_4.cell? (a6.add 0) = some (.slice A_t137 n_t137 c_t137) ∧ Holds none [] Tryd.prog 34 (.loop (lB (bB (sR (cT (sR (sL (sR (sR (body Tryd.f38)))))))))) (dag_Graph_pick__dag_Graph_Future_fn1.q1 K) [(1, .func (.func 39) #[] #[.pointer (some cap2)]), (4, .slice none 0 0), (5, .slice none 0 0), (13, .slice A_t137 n_t137 c_t137), (14, .int .i64 (n_t137 : Int)), (15, .int .i64 0)] w_4) (Ret Tryd.prog 37 #[.slice none 0 0] w_4 fun v8 w_9 => ∃ A_t3310 : Option Addr, ∃ n_t3310 : Nat, ∃ c_t3310 : Nat, v8 = .slice A_t3310 n_t3310 c_t3310 ∧ K (.slice A_t3310 n_t3310 c_t3310) w_9)
theorem dag_Graph_pick__dag_Graph_Future_fn1.s (g1 : Option Addr) (cap2 : Addr) (K : Value → World → Prop) (w : World) : (codeW none [] Tryd.prog Tryd.f38.ntmps dag_Graph_pick__dag_Graph_Future_fn1.k (body Tryd.f38) (resSlots Tryd.f38) (funQ Tryd.prog Tryd.f38 K) (argEnv [.pointer g1, .func (.func 39) #[] #[.pointer (some cap2)]] 0) w) = dag_Graph_pick__dag_Graph_Future_fn1.W g1 cap2 K w := by kernel_rfl
theorem dag_Graph_pick__dag_Graph_Future_fn1.of {g1 : Option Addr} {cap2 : Addr} {K : Value → World → Prop} {w : World} (h : dag_Graph_pick__dag_Graph_Future_fn1.W g1 cap2 K w) : Ret Tryd.prog 38 #[.pointer g1, .func (.func 39) #[] #[.pointer (some cap2)]] w K :=
  ret_of_eq (C := dag_Graph_pick__dag_Graph_Future_fn1.k) (fn := Tryd.f38) (c := body Tryd.f38) ng mix Tryd.func38 (by kernel_rfl) (by kernel_rfl) (dag_Graph_pick__dag_Graph_Future_fn1.s g1 cap2 K w) h
def dag_Graph_pick__dag_Graph_Future_fn1.B1 (isc11 : Addr) (A_t412 : Option Addr) (n_t412 : Nat) (c_t412 : Nat) (A_out13 : Option Addr) (n_out13 : Nat) (c_out13 : Nat) (A_t1314 : Option Addr) (n_t1314 : Nat) (c_t1314 : Nat) (t1415 : Int) (t1516 : Int) (Q : Post) (w : World) : Prop :=
  Split (decide (t1516 < t1415)) ((0 ≤ t1516 ∧ t1516 < (n_t1314 : Int)) ∧ Is A_t1314 fun a17 : Addr => ∃ t1918 : Option Addr, w.cell? (a17.add (t1516.toNat * 1)) = some (.pointer t1918) ∧ Ret Tryd.prog 39 #[.int .i64 t1516, .pointer t1918, .pointer (some isc11)] w fun v19 w_20 => ∃ t2321 : Bool, v19 = .bool t2321 ∧ Split t2321 (Is t1918 fun a22 : Addr => ∃ t2823 : Array Value, (t2823.size = 32 ∧ Cells w_20 (a22.add 0) t2823) ∧ t2823.size = 32 ∧ let w_24 : World := w_20.alloc (.cells (t2823.toList ++ []).toArray 23); ∃ (A_t3025 : Option Addr) (n_t3025 c_t3025 : Nat) (w_26 : World), (Builtin.append_ #[25, 25] 25 #[.slice A_out13 n_out13 c_out13, .slice (some (⟨w_20.heap.size, 0, none⟩ : Addr)) 1 1]).run Tryd.prog w_24 = .ok (.slice A_t3025 n_t3025 c_t3025) w_26 ∧ Q .normal [(1, .func (.func 39) #[] #[.pointer (some isc11)]), (4, .slice A_t412 n_t412 c_t412), (5, .slice A_t3025 n_t3025 c_t3025), (13, .slice A_t1314 n_t1314 c_t1314), (14, .int .i64 t1415), (15, .int .i64 (IntKind.i64.wrap (t1516 + (1 : Int))))] w_26) (Q .normal [(1, .func (.func 39) #[] #[.pointer (some isc11)]), (4, .slice A_t412 n_t412 c_t412), (5, .slice A_out13 n_out13 c_out13), (13, .slice A_t1314 n_t1314 c_t1314), (14, .int .i64 t1415), (15, .int .i64 (IntKind.i64.wrap (t1516 + (1 : Int))))] w_20)) (Q (.exit 0) [(1, .func (.func 39) #[] #[.pointer (some isc11)]), (4, .slice A_t412 n_t412 c_t412), (5, .slice A_out13 n_out13 c_out13), (13, .slice A_t1314 n_t1314 c_t1314), (14, .int .i64 t1415), (15, .int .i64 t1516)] w)
theorem dag_Graph_pick__dag_Graph_Future_fn1.b1 (isc11 : Addr) (A_t412 : Option Addr) (n_t412 : Nat) (c_t412 : Nat) (A_out13 : Option Addr) (n_out13 : Nat) (c_out13 : Nat) (A_t1314 : Option Addr) (n_t1314 : Nat) (c_t1314 : Nat) (t1415 : Int) (t1516 : Int) (Q : Post) (w : World) : (codeW none [] Tryd.prog 34 dag_Graph_pick__dag_Graph_Future_fn1.k (lB (bB (sR (cT (sR (sL (sR (sR (body Tryd.f38))))))))) dag_Graph_pick__dag_Graph_Future_fn1.u1 Q [(1, .func (.func 39) #[] #[.pointer (some isc11)]), (4, .slice A_t412 n_t412 c_t412), (5, .slice A_out13 n_out13 c_out13), (13, .slice A_t1314 n_t1314 c_t1314), (14, .int .i64 t1415), (15, .int .i64 t1516)] w) = dag_Graph_pick__dag_Graph_Future_fn1.B1 isc11 A_t412 n_t412 c_t412 A_out13 n_out13 c_out13 A_t1314 n_t1314 c_t1314 t1415 t1516 Q w := by kernel_rfl
theorem dag_Graph_pick__dag_Graph_Future_fn1.loop1 {isc11 : Addr} {A_t412 : Option Addr} {n_t412 : Nat} {c_t412 : Nat} {A_t1314 : Option Addr} {n_t1314 : Nat} {c_t1314 : Nat} {t1415 : Int} (I : (Option Addr) × Nat × Nat × Int → World → Prop) (μ : (Option Addr) × Nat × Nat × Int → World → Nat) (s : (Option Addr) × Nat × Nat × Int) {Q : Post} {w : World} (h0 : I s w)
    (round : ∀ s w, I s w → dag_Graph_pick__dag_Graph_Future_fn1.B1 isc11 A_t412 n_t412 c_t412 (s.1) (s.2.1) (s.2.2.1) A_t1314 n_t1314 c_t1314 t1415 (s.2.2.2) (roundQ (dag_Graph_pick__dag_Graph_Future_fn1.e1 isc11 A_t412 n_t412 c_t412 A_t1314 n_t1314 c_t1314 t1415) I μ s w Q) w) : Holds none [] Tryd.prog 34 (.loop (lB (bB (sR (cT (sR (sL (sR (sR (body Tryd.f38)))))))))) Q (dag_Graph_pick__dag_Graph_Future_fn1.e1 isc11 A_t412 n_t412 c_t412 A_t1314 n_t1314 c_t1314 t1415 s) w :=
  loop_of_eq ng mix (dag_Graph_pick__dag_Graph_Future_fn1.e1 isc11 A_t412 n_t412 c_t412 A_t1314 n_t1314 c_t1314 t1415) I μ dag_Graph_pick__dag_Graph_Future_fn1.k dag_Graph_pick__dag_Graph_Future_fn1.u1 s (fun s Q w => dag_Graph_pick__dag_Graph_Future_fn1.B1 isc11 A_t412 n_t412 c_t412 (s.1) (s.2.1) (s.2.2.1) A_t1314 n_t1314 c_t1314 t1415 (s.2.2.2) Q w) (fun s Q w => dag_Graph_pick__dag_Graph_Future_fn1.b1 isc11 A_t412 n_t412 c_t412 (s.1) (s.2.1) (s.2.2.1) A_t1314 n_t1314 c_t1314 t1415 (s.2.2.2) Q w) h0 round
def dag_Graph_pick__dag_Graph_Future_fn1.X1_0 (isc27 : Addr) (A_t428 : Option Addr) (n_t428 : Nat) (c_t428 : Nat) (A_out29 : Option Addr) (n_out29 : Nat) (c_out29 : Nat) (A_t1330 : Option Addr) (n_t1330 : Nat) (c_t1330 : Nat) (t1431 : Int) (t1532 : Int) (K : Value → World → Prop) (w : World) : Prop :=
  Ret Tryd.prog 37 #[.slice A_out29 n_out29 c_out29] w fun v33 w_34 => ∃ A_t3335 : Option Addr, ∃ n_t3335 : Nat, ∃ c_t3335 : Nat, v33 = .slice A_t3335 n_t3335 c_t3335 ∧ K (.slice A_t3335 n_t3335 c_t3335) w_34
theorem dag_Graph_pick__dag_Graph_Future_fn1.x1_0 (isc27 : Addr) (A_t428 : Option Addr) (n_t428 : Nat) (c_t428 : Nat) (A_out29 : Option Addr) (n_out29 : Nat) (c_out29 : Nat) (A_t1330 : Option Addr) (n_t1330 : Nat) (c_t1330 : Nat) (t1431 : Int) (t1532 : Int) (K : Value → World → Prop) (w : World) : (dag_Graph_pick__dag_Graph_Future_fn1.q1 K (.exit 0) [(1, .func (.func 39) #[] #[.pointer (some isc27)]), (4, .slice A_t428 n_t428 c_t428), (5, .slice A_out29 n_out29 c_out29), (13, .slice A_t1330 n_t1330 c_t1330), (14, .int .i64 t1431), (15, .int .i64 t1532)] w) = dag_Graph_pick__dag_Graph_Future_fn1.X1_0 isc27 A_t428 n_t428 c_t428 A_out29 n_out29 c_out29 A_t1330 n_t1330 c_t1330 t1431 t1532 K w := by kernel_rfl
/-! ### 38: (*plexus/dag.Graph).pick -/
def dag_Graph_pick__dag_Graph_Anticone_fn1.k : List Nat := []
def dag_Graph_pick__dag_Graph_Anticone_fn1.q1 (K : Value → World → Prop) : Post := (blockQ 0 (uses (sR (sR (sR (body Tryd.f38)))) ++ (resSlots Tryd.f38)) (thenQ (fun ρ_ w_ => match cutAt dag_Graph_pick__dag_Graph_Anticone_fn1.k (sR (sR (sR (body Tryd.f38)))) with | true => Holds none [] Tryd.prog 34 (sR (sR (sR (body Tryd.f38)))) (funQ Tryd.prog Tryd.f38 K) ρ_ w_ | false => codeW none [] Tryd.prog 34 dag_Graph_pick__dag_Graph_Anticone_fn1.k (sR (sR (sR (body Tryd.f38)))) (resSlots Tryd.f38) (funQ Tryd.prog Tryd.f38 K) ρ_ w_) (funQ Tryd.prog Tryd.f38 K)))
def dag_Graph_pick__dag_Graph_Anticone_fn1.e1 (isc12 : Addr) (isc13 : Addr) (A_t414 : Option Addr) (n_t414 : Nat) (c_t414 : Nat) (A_t1316 : Option Addr) (n_t1316 : Nat) (c_t1316 : Nat) (t1417 : Int) (s : (Option Addr) × Nat × Nat × Int) : Env := [(1, .func (.func 40) #[] #[.pointer (some isc12), .pointer (some isc13)]), (4, .slice A_t414 n_t414 c_t414), (5, .slice s.1 s.2.1 s.2.2.1), (13, .slice A_t1316 n_t1316 c_t1316), (14, .int .i64 t1417), (15, .int .i64 s.2.2.2)]
def dag_Graph_pick__dag_Graph_Anticone_fn1.u1 : List Nat := [1, 4, 5, 13, 14, 15]
def dag_Graph_pick__dag_Graph_Anticone_fn1.W (g1 : Option Addr) (cap2 : Addr) (cap3 : Addr) (K : Value → World → Prop) (w : World) : Prop :=
  Ret Tryd.prog 41 #[.pointer g1] w fun v4 w_5 => ∃ t96 : Bool, v4 = .bool t96 ∧ Split t96 (Is g1 fun a7 : Addr => ∃ A_t138 : Option Addr, ∃ n_t138 : Nat, ∃ c_t138 : Nat, w_5.cell? (a7.add 0) = some (.slice A_t138 n_t138 c_t138) ∧ Holds none [] Tryd.prog 34 (.loop (lB (bB (sR (cT (sR (sL (sR (sR (body Tryd.f38)))))))))) (dag_Graph_pick__dag_Graph_Anticone_fn1.q1 K) [(1, .func (.func 40) #[] #[.pointer (some cap2), .pointer (some cap3)]), (4, .slice none 0 0), (5, .slice none 0 0), (13, .slice A_t138 n_t138 c_t138), (14, .int .i64 (n_t138 : Int)), (15, .int .i64 0)] w_5) (Ret Tryd.prog 37 #[.slice none 0 0] w_5 fun v9 w_10 => ∃ A_t3311 : Option Addr, ∃ n_t3311 : Nat, ∃ c_t3311 : Nat, v9 = .slice A_t3311 n_t3311 c_t3311 ∧ K (.slice A_t3311 n_t3311 c_t3311) w_10)
theorem dag_Graph_pick__dag_Graph_Anticone_fn1.s (g1 : Option Addr) (cap2 : Addr) (cap3 : Addr) (K : Value → World → Prop) (w : World) : (codeW none [] Tryd.prog Tryd.f38.ntmps dag_Graph_pick__dag_Graph_Anticone_fn1.k (body Tryd.f38) (resSlots Tryd.f38) (funQ Tryd.prog Tryd.f38 K) (argEnv [.pointer g1, .func (.func 40) #[] #[.pointer (some cap2), .pointer (some cap3)]] 0) w) = dag_Graph_pick__dag_Graph_Anticone_fn1.W g1 cap2 cap3 K w := by kernel_rfl
theorem dag_Graph_pick__dag_Graph_Anticone_fn1.of {g1 : Option Addr} {cap2 : Addr} {cap3 : Addr} {K : Value → World → Prop} {w : World} (h : dag_Graph_pick__dag_Graph_Anticone_fn1.W g1 cap2 cap3 K w) : Ret Tryd.prog 38 #[.pointer g1, .func (.func 40) #[] #[.pointer (some cap2), .pointer (some cap3)]] w K :=
  ret_of_eq (C := dag_Graph_pick__dag_Graph_Anticone_fn1.k) (fn := Tryd.f38) (c := body Tryd.f38) ng mix Tryd.func38 (by kernel_rfl) (by kernel_rfl) (dag_Graph_pick__dag_Graph_Anticone_fn1.s g1 cap2 cap3 K w) h
def dag_Graph_pick__dag_Graph_Anticone_fn1.B1 (isc12 : Addr) (isc13 : Addr) (A_t414 : Option Addr) (n_t414 : Nat) (c_t414 : Nat) (A_out15 : Option Addr) (n_out15 : Nat) (c_out15 : Nat) (A_t1316 : Option Addr) (n_t1316 : Nat) (c_t1316 : Nat) (t1417 : Int) (t1518 : Int) (Q : Post) (w : World) : Prop :=
  Split (decide (t1518 < t1417)) ((0 ≤ t1518 ∧ t1518 < (n_t1316 : Int)) ∧ Is A_t1316 fun a19 : Addr => ∃ t1920 : Option Addr, w.cell? (a19.add (t1518.toNat * 1)) = some (.pointer t1920) ∧ Ret Tryd.prog 40 #[.int .i64 t1518, .pointer t1920, .pointer (some isc12), .pointer (some isc13)] w fun v21 w_22 => ∃ t2323 : Bool, v21 = .bool t2323 ∧ Split t2323 (Is t1920 fun a24 : Addr => ∃ t2825 : Array Value, (t2825.size = 32 ∧ Cells w_22 (a24.add 0) t2825) ∧ t2825.size = 32 ∧ let w_26 : World := w_22.alloc (.cells (t2825.toList ++ []).toArray 23); ∃ (A_t3027 : Option Addr) (n_t3027 c_t3027 : Nat) (w_28 : World), (Builtin.append_ #[25, 25] 25 #[.slice A_out15 n_out15 c_out15, .slice (some (⟨w_22.heap.size, 0, none⟩ : Addr)) 1 1]).run Tryd.prog w_26 = .ok (.slice A_t3027 n_t3027 c_t3027) w_28 ∧ Q .normal [(1, .func (.func 40) #[] #[.pointer (some isc12), .pointer (some isc13)]), (4, .slice A_t414 n_t414 c_t414), (5, .slice A_t3027 n_t3027 c_t3027), (13, .slice A_t1316 n_t1316 c_t1316), (14, .int .i64 t1417), (15, .int .i64 (IntKind.i64.wrap (t1518 + (1 : Int))))] w_28) (Q .normal [(1, .func (.func 40) #[] #[.pointer (some isc12), .pointer (some isc13)]), (4, .slice A_t414 n_t414 c_t414), (5, .slice A_out15 n_out15 c_out15), (13, .slice A_t1316 n_t1316 c_t1316), (14, .int .i64 t1417), (15, .int .i64 (IntKind.i64.wrap (t1518 + (1 : Int))))] w_22)) (Q (.exit 0) [(1, .func (.func 40) #[] #[.pointer (some isc12), .pointer (some isc13)]), (4, .slice A_t414 n_t414 c_t414), (5, .slice A_out15 n_out15 c_out15), (13, .slice A_t1316 n_t1316 c_t1316), (14, .int .i64 t1417), (15, .int .i64 t1518)] w)
theorem dag_Graph_pick__dag_Graph_Anticone_fn1.b1 (isc12 : Addr) (isc13 : Addr) (A_t414 : Option Addr) (n_t414 : Nat) (c_t414 : Nat) (A_out15 : Option Addr) (n_out15 : Nat) (c_out15 : Nat) (A_t1316 : Option Addr) (n_t1316 : Nat) (c_t1316 : Nat) (t1417 : Int) (t1518 : Int) (Q : Post) (w : World) : (codeW none [] Tryd.prog 34 dag_Graph_pick__dag_Graph_Anticone_fn1.k (lB (bB (sR (cT (sR (sL (sR (sR (body Tryd.f38))))))))) dag_Graph_pick__dag_Graph_Anticone_fn1.u1 Q [(1, .func (.func 40) #[] #[.pointer (some isc12), .pointer (some isc13)]), (4, .slice A_t414 n_t414 c_t414), (5, .slice A_out15 n_out15 c_out15), (13, .slice A_t1316 n_t1316 c_t1316), (14, .int .i64 t1417), (15, .int .i64 t1518)] w) = dag_Graph_pick__dag_Graph_Anticone_fn1.B1 isc12 isc13 A_t414 n_t414 c_t414 A_out15 n_out15 c_out15 A_t1316 n_t1316 c_t1316 t1417 t1518 Q w := by kernel_rfl
theorem dag_Graph_pick__dag_Graph_Anticone_fn1.loop1 {isc12 : Addr} {isc13 : Addr} {A_t414 : Option Addr} {n_t414 : Nat} {c_t414 : Nat} {A_t1316 : Option Addr} {n_t1316 : Nat} {c_t1316 : Nat} {t1417 : Int} (I : (Option Addr) × Nat × Nat × Int → World → Prop) (μ : (Option Addr) × Nat × Nat × Int → World → Nat) (s : (Option Addr) × Nat × Nat × Int) {Q : Post} {w : World} (h0 : I s w)
    (round : ∀ s w, I s w → dag_Graph_pick__dag_Graph_Anticone_fn1.B1 isc12 isc13 A_t414 n_t414 c_t414 (s.1) (s.2.1) (s.2.2.1) A_t1316 n_t1316 c_t1316 t1417 (s.2.2.2) (roundQ (dag_Graph_pick__dag_Graph_Anticone_fn1.e1 isc12 isc13 A_t414 n_t414 c_t414 A_t1316 n_t1316 c_t1316 t1417) I μ s w Q) w) : Holds none [] Tryd.prog 34 (.loop (lB (bB (sR (cT (sR (sL (sR (sR (body Tryd.f38)))))))))) Q (dag_Graph_pick__dag_Graph_Anticone_fn1.e1 isc12 isc13 A_t414 n_t414 c_t414 A_t1316 n_t1316 c_t1316 t1417 s) w :=
  loop_of_eq ng mix (dag_Graph_pick__dag_Graph_Anticone_fn1.e1 isc12 isc13 A_t414 n_t414 c_t414 A_t1316 n_t1316 c_t1316 t1417) I μ dag_Graph_pick__dag_Graph_Anticone_fn1.k dag_Graph_pick__dag_Graph_Anticone_fn1.u1 s (fun s Q w => dag_Graph_pick__dag_Graph_Anticone_fn1.B1 isc12 isc13 A_t414 n_t414 c_t414 (s.1) (s.2.1) (s.2.2.1) A_t1316 n_t1316 c_t1316 t1417 (s.2.2.2) Q w) (fun s Q w => dag_Graph_pick__dag_Graph_Anticone_fn1.b1 isc12 isc13 A_t414 n_t414 c_t414 (s.1) (s.2.1) (s.2.2.1) A_t1316 n_t1316 c_t1316 t1417 (s.2.2.2) Q w) h0 round
def dag_Graph_pick__dag_Graph_Anticone_fn1.X1_0 (isc29 : Addr) (isc30 : Addr) (A_t431 : Option Addr) (n_t431 : Nat) (c_t431 : Nat) (A_out32 : Option Addr) (n_out32 : Nat) (c_out32 : Nat) (A_t1333 : Option Addr) (n_t1333 : Nat) (c_t1333 : Nat) (t1434 : Int) (t1535 : Int) (K : Value → World → Prop) (w : World) : Prop :=
  Ret Tryd.prog 37 #[.slice A_out32 n_out32 c_out32] w fun v36 w_37 => ∃ A_t3338 : Option Addr, ∃ n_t3338 : Nat, ∃ c_t3338 : Nat, v36 = .slice A_t3338 n_t3338 c_t3338 ∧ K (.slice A_t3338 n_t3338 c_t3338) w_37
theorem dag_Graph_pick__dag_Graph_Anticone_fn1.x1_0 (isc29 : Addr) (isc30 : Addr) (A_t431 : Option Addr) (n_t431 : Nat) (c_t431 : Nat) (A_out32 : Option Addr) (n_out32 : Nat) (c_out32 : Nat) (A_t1333 : Option Addr) (n_t1333 : Nat) (c_t1333 : Nat) (t1434 : Int) (t1535 : Int) (K : Value → World → Prop) (w : World) : (dag_Graph_pick__dag_Graph_Anticone_fn1.q1 K (.exit 0) [(1, .func (.func 40) #[] #[.pointer (some isc29), .pointer (some isc30)]), (4, .slice A_t431 n_t431 c_t431), (5, .slice A_out32 n_out32 c_out32), (13, .slice A_t1333 n_t1333 c_t1333), (14, .int .i64 t1434), (15, .int .i64 t1535)] w) = dag_Graph_pick__dag_Graph_Anticone_fn1.X1_0 isc29 isc30 A_t431 n_t431 c_t431 A_out32 n_out32 c_out32 A_t1333 n_t1333 c_t1333 t1434 t1535 K w := by kernel_rfl
/-! ### 63: slices.IndexFunc[[]plexus/api.Hash,plexus/api.Hash] -/
def slices_IndexFunc_of_api_Hash__dag_Graph_Add_fn1.k : List Nat := []
def slices_IndexFunc_of_api_Hash__dag_Graph_Add_fn1.q1 (K : Value → World → Prop) : Post := (blockQ 0 (uses (sR (sR (body Tryd.f63))) ++ (resSlots Tryd.f63)) (thenQ (fun ρ_ w_ => match cutAt slices_IndexFunc_of_api_Hash__dag_Graph_Add_fn1.k (sR (sR (body Tryd.f63))) with | true => Holds none [] Tryd.prog 19 (sR (sR (body Tryd.f63))) (funQ Tryd.prog Tryd.f63 K) ρ_ w_ | false => codeW none [] Tryd.prog 19 slices_IndexFunc_of_api_Hash__dag_Graph_Add_fn1.k (sR (sR (body Tryd.f63))) (resSlots Tryd.f63) (funQ Tryd.prog Tryd.f63 K) ρ_ w_) (funQ Tryd.prog Tryd.f63 K)))
def slices_IndexFunc_of_api_Hash__dag_Graph_Add_fn1.e1 (A_s3 : Option Addr) (n_s3 : Nat) (c_s3 : Nat) (fc4 : Addr) (t76 : Int) (s : Int × Int) : Env := [(0, .slice A_s3 n_s3 c_s3), (1, .func (.func 50) #[] #[.pointer (some fc4)]), (4, .int .i64 s.1), (7, .int .i64 t76), (8, .int .i64 s.2)]
def slices_IndexFunc_of_api_Hash__dag_Graph_Add_fn1.u1 : List Nat := [0, 1, 4, 7, 8]
def slices_IndexFunc_of_api_Hash__dag_Graph_Add_fn1.W (A_s1 : Option Addr) (n_s1 : Nat) (c_s1 : Nat) (cap2 : Addr) (K : Value → World → Prop) (w : World) : Prop :=
  Holds none [] Tryd.prog 19 (.loop (lB (bB (sR (sL (sR (body Tryd.f63))))))) (slices_IndexFunc_of_api_Hash__dag_Graph_Add_fn1.q1 K) [(0, .slice A_s1 n_s1 c_s1), (1, .func (.func 50) #[] #[.pointer (some cap2)]), (4, .int .i64 0), (7, .int .i64 (n_s1 : Int)), (8, .int .i64 0)] w
theorem slices_IndexFunc_of_api_Hash__dag_Graph_Add_fn1.s (A_s1 : Option Addr) (n_s1 : Nat) (c_s1 : Nat) (cap2 : Addr) (K : Value → World → Prop) (w : World) : (codeW none [] Tryd.prog Tryd.f63.ntmps slices_IndexFunc_of_api_Hash__dag_Graph_Add_fn1.k (body Tryd.f63) (resSlots Tryd.f63) (funQ Tryd.prog Tryd.f63 K) (argEnv [.slice A_s1 n_s1 c_s1, .func (.func 50) #[] #[.pointer (some cap2)]] 0) w) = slices_IndexFunc_of_api_Hash__dag_Graph_Add_fn1.W A_s1 n_s1 c_s1 cap2 K w := by kernel_rfl
theorem slices_IndexFunc_of_api_Hash__dag_Graph_Add_fn1.of {A_s1 : Option Addr} {n_s1 : Nat} {c_s1 : Nat} {cap2 : Addr} {K : Value → World → Prop} {w : World} (h : slices_IndexFunc_of_api_Hash__dag_Graph_Add_fn1.W A_s1 n_s1 c_s1 cap2 K w) : Ret Tryd.prog 63 #[.slice A_s1 n_s1 c_s1, .func (.func 50) #[] #[.pointer (some cap2)]] w K :=
  ret_of_eq (C := slices_IndexFunc_of_api_Hash__dag_Graph_Add_fn1.k) (fn := Tryd.f63) (c := body Tryd.f63) ng mix Tryd.func63 (by kernel_rfl) (by kernel_rfl) (slices_IndexFunc_of_api_Hash__dag_Graph_Add_fn1.s A_s1 n_s1 c_s1 cap2 K w) h
def slices_IndexFunc_of_api_Hash__dag_Graph_Add_fn1.B1 (A_s3 : Option Addr) (n_s3 : Nat) (c_s3 : Nat) (fc4 : Addr) (t45 : Int) (t76 : Int) (t87 : Int) (Q : Post) (w : World) : Prop :=
  Split (decide (t87 < t76)) ((0 ≤ t87 ∧ t87 < (n_s3 : Int)) ∧ Is A_s3 fun a8 : Addr => ∃ t159 : Array Value, (t159.size = 32 ∧ Cells w (a8.add (t87.toNat * 32)) t159) ∧ Ret Tryd.prog 50 #[.agg t159, .pointer (some fc4)] w fun v10 w_11 => ∃ t1612 : Bool, v10 = .bool t1612 ∧ Split t1612 (Q .ret [(0, .slice A_s3 n_s3 c_s3), (1, .func (.func 50) #[] #[.pointer (some fc4)]), (4, .int .i64 t87), (7, .int .i64 t76), (8, .int .i64 t87)] w_11) (Q .normal [(0, .slice A_s3 n_s3 c_s3), (1, .func (.func 50) #[] #[.pointer (some fc4)]), (4, .int .i64 t45), (7, .int .i64 t76), (8, .int .i64 (IntKind.i64.wrap (t87 + (1 : Int))))] w_11)) (Q (.exit 0) [(0, .slice A_s3 n_s3 c_s3), (1, .func (.func 50) #[] #[.pointer (some fc4)]), (4, .int .i64 t45), (7, .int .i64 t76), (8, .int .i64 t87)] w)
theorem slices_IndexFunc_of_api_Hash__dag_Graph_Add_fn1.b1 (A_s3 : Option Addr) (n_s3 : Nat) (c_s3 : Nat) (fc4 : Addr) (t45 : Int) (t76 : Int) (t87 : Int) (Q : Post) (w : World) : (codeW none [] Tryd.prog 19 slices_IndexFunc_of_api_Hash__dag_Graph_Add_fn1.k (lB (bB (sR (sL (sR (body Tryd.f63)))))) slices_IndexFunc_of_api_Hash__dag_Graph_Add_fn1.u1 Q [(0, .slice A_s3 n_s3 c_s3), (1, .func (.func 50) #[] #[.pointer (some fc4)]), (4, .int .i64 t45), (7, .int .i64 t76), (8, .int .i64 t87)] w) = slices_IndexFunc_of_api_Hash__dag_Graph_Add_fn1.B1 A_s3 n_s3 c_s3 fc4 t45 t76 t87 Q w := by kernel_rfl
theorem slices_IndexFunc_of_api_Hash__dag_Graph_Add_fn1.loop1 {A_s3 : Option Addr} {n_s3 : Nat} {c_s3 : Nat} {fc4 : Addr} {t76 : Int} (I : Int × Int → World → Prop) (μ : Int × Int → World → Nat) (s : Int × Int) {Q : Post} {w : World} (h0 : I s w)
    (round : ∀ s w, I s w → slices_IndexFunc_of_api_Hash__dag_Graph_Add_fn1.B1 A_s3 n_s3 c_s3 fc4 (s.1) t76 (s.2) (roundQ (slices_IndexFunc_of_api_Hash__dag_Graph_Add_fn1.e1 A_s3 n_s3 c_s3 fc4 t76) I μ s w Q) w) : Holds none [] Tryd.prog 19 (.loop (lB (bB (sR (sL (sR (body Tryd.f63))))))) Q (slices_IndexFunc_of_api_Hash__dag_Graph_Add_fn1.e1 A_s3 n_s3 c_s3 fc4 t76 s) w :=
  loop_of_eq ng mix (slices_IndexFunc_of_api_Hash__dag_Graph_Add_fn1.e1 A_s3 n_s3 c_s3 fc4 t76) I μ slices_IndexFunc_of_api_Hash__dag_Graph_Add_fn1.k slices_IndexFunc_of_api_Hash__dag_Graph_Add_fn1.u1 s (fun s Q w => slices_IndexFunc_of_api_Hash__dag_Graph_Add_fn1.B1 A_s3 n_s3 c_s3 fc4 (s.1) t76 (s.2) Q w) (fun s Q w => slices_IndexFunc_of_api_Hash__dag_Graph_Add_fn1.b1 A_s3 n_s3 c_s3 fc4 (s.1) t76 (s.2) Q w) h0 round
def slices_IndexFunc_of_api_Hash__dag_Graph_Add_fn1.X1_0 (A_s13 : Option Addr) (n_s13 : Nat) (c_s13 : Nat) (fc14 : Addr) (t415 : Int) (t716 : Int) (t817 : Int) (K : Value → World → Prop) (w : World) : Prop :=
  K (.int .i64 (-1)) w
theorem slices_IndexFunc_of_api_Hash__dag_Graph_Add_fn1.x1_0 (A_s13 : Option Addr) (n_s13 : Nat) (c_s13 : Nat) (fc14 : Addr) (t415 : Int) (t716 : Int) (t817 : Int) (K : Value → World → Prop) (w : World) : (slices_IndexFunc_of_api_Hash__dag_Graph_Add_fn1.q1 K (.exit 0) [(0, .slice A_s13 n_s13 c_s13), (1, .func (.func 50) #[] #[.pointer (some fc14)]), (4, .int .i64 t415), (7, .int .i64 t716), (8, .int .i64 t817)] w) = slices_IndexFunc_of_api_Hash__dag_Graph_Add_fn1.X1_0 A_s13 n_s13 c_s13 fc14 t415 t716 t817 K w := by kernel_rfl
/-! ### 49: slices.ContainsFunc[[]plexus/api.Hash,plexus/api.Hash] -/
def slices_ContainsFunc_of_api_Hash__dag_Graph_Add_fn1.k : List Nat := []
def slices_ContainsFunc_of_api_Hash__dag_Graph_Add_fn1.W (A_s1 : Option Addr) (n_s1 : Nat) (c_s1 : Nat) (cap2 : Addr) (K : Value → World → Prop) (w : World) : Prop :=
  Ret Tryd.prog 63 #[.slice A_s1 n_s1 c_s1, .func (.func 50) #[] #[.pointer (some cap2)]] w fun v3 w_4 => ∃ t75 : Int, v3 = .int .i64 t75 ∧ K (.bool (decide (t75 ≥ (0 : Int)))) w_4
theorem slices_ContainsFunc_of_api_Hash__dag_Graph_Add_fn1.s (A_s1 : Option Addr) (n_s1 : Nat) (c_s1 : Nat) (cap2 : Addr) (K : Value → World → Prop) (w : World) : (codeW none [] Tryd.prog Tryd.f49.ntmps slices_ContainsFunc_of_api_Hash__dag_Graph_Add_fn1.k (body Tryd.f49) (resSlots Tryd.f49) (funQ Tryd.prog Tryd.f49 K) (argEnv [.slice A_s1 n_s1 c_s1, .func (.func 50) #[] #[.pointer (some cap2)]] 0) w) = slices_ContainsFunc_of_api_Hash__dag_Graph_Add_fn1.W A_s1 n_s1 c_s1 cap2 K w := by kernel_rfl
theorem slices_ContainsFunc_of_api_Hash__dag_Graph_Add_fn1.of {A_s1 : Option Addr} {n_s1 : Nat} {c_s1 : Nat} {cap2 : Addr} {K : Value → World → Prop} {w : World} (h : slices_ContainsFunc_of_api_Hash__dag_Graph_Add_fn1.W A_s1 n_s1 c_s1 cap2 K w) : Ret Tryd.prog 49 #[.slice A_s1 n_s1 c_s1, .func (.func 50) #[] #[.pointer (some cap2)]] w K :=
  ret_of_eq (C := slices_ContainsFunc_of_api_Hash__dag_Graph_Add_fn1.k) (fn := Tryd.f49) (c := body Tryd.f49) ng mix Tryd.func49 (by kernel_rfl) (by kernel_rfl) (slices_ContainsFunc_of_api_Hash__dag_Graph_Add_fn1.s A_s1 n_s1 c_s1 cap2 K w) h
/-! ### 52: (*plexus/dag.Graph).All$1 -/
def dag_Graph_All_fn1.k : List Nat := []
def dag_Graph_All_fn1.q1 (K : Value → World → Prop) : Post := (blockQ 0 (resSlots Tryd.f52) (funQ Tryd.prog Tryd.f52 K))
def dag_Graph_All_fn1.e1 (yield4 : Nat) (A_t55 : Option Addr) (n_t55 : Nat) (c_t55 : Nat) (t66 : Int) (s : Int) : Env := [(0, .func (.yield yield4) #[] #[]), (5, .slice A_t55 n_t55 c_t55), (6, .int .i64 t66), (7, .int .i64 s)]
def dag_Graph_All_fn1.u1 : List Nat := [0, 5, 6, 7]
def dag_Graph_All_fn1.W (l1 : Nat) (cap2 : Addr) (K : Value → World → Prop) (w : World) : Prop :=
  ∃ A_t53 : Option Addr, ∃ n_t53 : Nat, ∃ c_t53 : Nat, w.cell? cap2 = some (.slice A_t53 n_t53 c_t53) ∧ Holds none [] Tryd.prog 19 (.loop (lB (bB (sR (body Tryd.f52))))) (dag_Graph_All_fn1.q1 K) [(0, .func (.yield l1) #[] #[]), (5, .slice A_t53 n_t53 c_t53), (6, .int .i64 (n_t53 : Int)), (7, .int .i64 0)] w
theorem dag_Graph_All_fn1.s (l1 : Nat) (cap2 : Addr) (K : Value → World → Prop) (w : World) : (codeW none [] Tryd.prog Tryd.f52.ntmps dag_Graph_All_fn1.k (body Tryd.f52) (resSlots Tryd.f52) (funQ Tryd.prog Tryd.f52 K) (argEnv [.func (.yield l1) #[] #[], .pointer (some cap2)] 0) w) = dag_Graph_All_fn1.W l1 cap2 K w := by kernel_rfl
theorem dag_Graph_All_fn1.of {l1 : Nat} {cap2 : Addr} {K : Value → World → Prop} {w : World} (h : dag_Graph_All_fn1.W l1 cap2 K w) : Ret Tryd.prog 52 #[.func (.yield l1) #[] #[], .pointer (some cap2)] w K :=
  ret_of_eq (C := dag_Graph_All_fn1.k) (fn := Tryd.f52) (c := body Tryd.f52) ng mix Tryd.func52 (by kernel_rfl) (by kernel_rfl) (dag_Graph_All_fn1.s l1 cap2 K w) h
def dag_Graph_All_fn1.B1 (yield4 : Nat) (A_t55 : Option Addr) (n_t55 : Nat) (c_t55 : Nat) (t66 : Int) (t77 : Int) (Q : Post) (w : World) : Prop :=
  Split (decide (t77 < t66)) ((0 ≤ t77 ∧ t77 < (n_t55 : Int)) ∧ Is A_t55 fun a8 : Addr => ∃ t109 : Option Addr, w.cell? (a8.add (t77.toNat * 1)) = some (.pointer t109) ∧ Is t109 fun a10 : Addr => ∃ t1511 : Array Value, (t1511.size = 32 ∧ Cells w (a10.add 0) t1511) ∧ YieldsTo Tryd.prog yield4 #[.agg t1511] w fun b12 w_13 => Split (!b12) (Q .ret [(0, .func (.yield yield4) #[] #[]), (5, .slice A_t55 n_t55 c_t55), (6, .int .i64 t66), (7, .int .i64 t77)] w_13) (Q .normal [(0, .func (.yield yield4) #[] #[]), (5, .slice A_t55 n_t55 c_t55), (6, .int .i64 t66), (7, .int .i64 (IntKind.i64.wrap (t77 + (1 : Int))))] w_13)) (Q (.exit 0) [(0, .func (.yield yield4) #[] #[]), (5, .slice A_t55 n_t55 c_t55), (6, .int .i64 t66), (7, .int .i64 t77)] w)
theorem dag_Graph_All_fn1.b1 (yield4 : Nat) (A_t55 : Option Addr) (n_t55 : Nat) (c_t55 : Nat) (t66 : Int) (t77 : Int) (Q : Post) (w : World) : (codeW none [] Tryd.prog 19 dag_Graph_All_fn1.k (lB (bB (sR (body Tryd.f52)))) dag_Graph_All_fn1.u1 Q [(0, .func (.yield yield4) #[] #[]), (5, .slice A_t55 n_t55 c_t55), (6, .int .i64 t66), (7, .int .i64 t77)] w) = dag_Graph_All_fn1.B1 yield4 A_t55 n_t55 c_t55 t66 t77 Q w := by kernel_rfl
theorem dag_Graph_All_fn1.loop1 {yield4 : Nat} {A_t55 : Option Addr} {n_t55 : Nat} {c_t55 : Nat} {t66 : Int} (I : Int → World → Prop) (μ : Int → World → Nat) (s : Int) {Q : Post} {w : World} (h0 : I s w)
    (round : ∀ s w, I s w → dag_Graph_All_fn1.B1 yield4 A_t55 n_t55 c_t55 t66 (s) (roundQ (dag_Graph_All_fn1.e1 yield4 A_t55 n_t55 c_t55 t66) I μ s w Q) w) : Holds none [] Tryd.prog 19 (.loop (lB (bB (sR (body Tryd.f52))))) Q (dag_Graph_All_fn1.e1 yield4 A_t55 n_t55 c_t55 t66 s) w :=
  loop_of_eq ng mix (dag_Graph_All_fn1.e1 yield4 A_t55 n_t55 c_t55 t66) I μ dag_Graph_All_fn1.k dag_Graph_All_fn1.u1 s (fun s Q w => dag_Graph_All_fn1.B1 yield4 A_t55 n_t55 c_t55 t66 (s) Q w) (fun s Q w => dag_Graph_All_fn1.b1 yield4 A_t55 n_t55 c_t55 t66 (s) Q w) h0 round
def dag_Graph_All_fn1.X1_0 (yield14 : Nat) (A_t515 : Option Addr) (n_t515 : Nat) (c_t515 : Nat) (t616 : Int) (t717 : Int) (K : Value → World → Prop) (w : World) : Prop :=
  K (.tuple #[]) w
theorem dag_Graph_All_fn1.x1_0 (yield14 : Nat) (A_t515 : Option Addr) (n_t515 : Nat) (c_t515 : Nat) (t616 : Int) (t717 : Int) (K : Value → World → Prop) (w : World) : (dag_Graph_All_fn1.q1 K (.exit 0) [(0, .func (.yield yield14) #[] #[]), (5, .slice A_t515 n_t515 c_t515), (6, .int .i64 t616), (7, .int .i64 t717)] w) = dag_Graph_All_fn1.X1_0 yield14 A_t515 n_t515 c_t515 t616 t717 K w := by kernel_rfl
/-! ### 54: (plexus/dag.row).all$1 -/
def dag_row_all_fn1.k : List Nat := []
def dag_row_all_fn1.q1 (K : Value → World → Prop) : Post := (blockQ 0 (resSlots Tryd.f54) (funQ Tryd.prog Tryd.f54 K))
def dag_row_all_fn1.e1 (yield4 : Nat) (A_t55 : Option Addr) (n_t55 : Nat) (c_t55 : Nat) (t66 : Int) (s : Int) : Env := [(0, .func (.yield yield4) #[] #[]), (5, .slice A_t55 n_t55 c_t55), (6, .int .i64 t66), (7, .int .i64 s)]
def dag_row_all_fn1.u1 : List Nat := [0, 5, 6, 7]
def dag_row_all_fn1.q2 (Q : Post) : Post := (blockQ 2 (uses (sR (sR (sR (lB (bB (sR (body Tryd.f54))))))) ++ dag_row_all_fn1.u1) (blockQ 1 (uses (sR (sR (sR (lB (bB (sR (body Tryd.f54))))))) ++ dag_row_all_fn1.u1) (thenQ (fun ρ_ w_ => match cutAt dag_row_all_fn1.k (sR (sR (sR (lB (bB (sR (body Tryd.f54))))))) with | true => Holds none [] Tryd.prog 27 (sR (sR (sR (lB (bB (sR (body Tryd.f54))))))) Q ρ_ w_ | false => codeW none [] Tryd.prog 27 dag_row_all_fn1.k (sR (sR (sR (lB (bB (sR (body Tryd.f54))))))) dag_row_all_fn1.u1 Q ρ_ w_) Q)))
def dag_row_all_fn1.e2 (yield14 : Nat) (i15 : Int) (A_t517 : Option Addr) (n_t517 : Nat) (c_t517 : Nat) (t618 : Int) (t719 : Int) (s : Int) : Env := [(0, .func (.yield yield14) #[] #[]), (3, .int .i64 i15), (4, .int .u64 s), (5, .slice A_t517 n_t517 c_t517), (6, .int .i64 t618), (7, .int .i64 t719)]
def dag_row_all_fn1.u2 : List Nat := [0, 3, 4, 5, 6, 7]
def dag_row_all_fn1.W (l1 : Nat) (cap2 : Addr) (K : Value → World → Prop) (w : World) : Prop :=
  ∃ A_t53 : Option Addr, ∃ n_t53 : Nat, ∃ c_t53 : Nat, w.cell? cap2 = some (.slice A_t53 n_t53 c_t53) ∧ Holds none [] Tryd.prog 27 (.loop (lB (bB (sR (body Tryd.f54))))) (dag_row_all_fn1.q1 K) [(0, .func (.yield l1) #[] #[]), (5, .slice A_t53 n_t53 c_t53), (6, .int .i64 (n_t53 : Int)), (7, .int .i64 0)] w
theorem dag_row_all_fn1.s (l1 : Nat) (cap2 : Addr) (K : Value → World → Prop) (w : World) : (codeW none [] Tryd.prog Tryd.f54.ntmps dag_row_all_fn1.k (body Tryd.f54) (resSlots Tryd.f54) (funQ Tryd.prog Tryd.f54 K) (argEnv [.func (.yield l1) #[] #[], .pointer (some cap2)] 0) w) = dag_row_all_fn1.W l1 cap2 K w := by kernel_rfl
theorem dag_row_all_fn1.of {l1 : Nat} {cap2 : Addr} {K : Value → World → Prop} {w : World} (h : dag_row_all_fn1.W l1 cap2 K w) : Ret Tryd.prog 54 #[.func (.yield l1) #[] #[], .pointer (some cap2)] w K :=
  ret_of_eq (C := dag_row_all_fn1.k) (fn := Tryd.f54) (c := body Tryd.f54) ng mix Tryd.func54 (by kernel_rfl) (by kernel_rfl) (dag_row_all_fn1.s l1 cap2 K w) h
def dag_row_all_fn1.B1 (yield4 : Nat) (A_t55 : Option Addr) (n_t55 : Nat) (c_t55 : Nat) (t66 : Int) (t77 : Int) (Q : Post) (w : World) : Prop :=
  Split (decide (t77 < t66)) ((0 ≤ t77 ∧ t77 < (n_t55 : Int)) ∧ Is A_t55 fun a8 : Addr => ∃ t119 : Int, w.cell? (a8.add (t77.toNat * 1)) = some (.int .u64 t119) ∧ Holds none [] Tryd.prog 27 (.loop (lB (bB (sR (bB (sL (sR (sR (lB (bB (sR (body Tryd.f54)))))))))))) (dag_row_all_fn1.q2 Q) [(0, .func (.yield yield4) #[] #[]), (3, .int .i64 t77), (4, .int .u64 t119), (5, .slice A_t55 n_t55 c_t55), (6, .int .i64 t66), (7, .int .i64 t77)] w) (Q (.exit 0) [(0, .func (.yield yield4) #[] #[]), (5, .slice A_t55 n_t55 c_t55), (6, .int .i64 t66), (7, .int .i64 t77)] w)
theorem dag_row_all_fn1.b1 (yield4 : Nat) (A_t55 : Option Addr) (n_t55 : Nat) (c_t55 : Nat) (t66 : Int) (t77 : Int) (Q : Post) (w : World) : (codeW none [] Tryd.prog 27 dag_row_all_fn1.k (lB (bB (sR (body Tryd.f54)))) dag_row_all_fn1.u1 Q [(0, .func (.yield yield4) #[] #[]), (5, .slice A_t55 n_t55 c_t55), (6, .int .i64 t66), (7, .int .i64 t77)] w) = dag_row_all_fn1.B1 yield4 A_t55 n_t55 c_t55 t66 t77 Q w := by kernel_rfl
theorem dag_row_all_fn1.loop1 {yield4 : Nat} {A_t55 : Option Addr} {n_t55 : Nat} {c_t55 : Nat} {t66 : Int} (I : Int → World → Prop) (μ : Int → World → Nat) (s : Int) {Q : Post} {w : World} (h0 : I s w)
    (round : ∀ s w, I s w → dag_row_all_fn1.B1 yield4 A_t55 n_t55 c_t55 t66 (s) (roundQ (dag_row_all_fn1.e1 yield4 A_t55 n_t55 c_t55 t66) I μ s w Q) w) : Holds none [] Tryd.prog 27 (.loop (lB (bB (sR (body Tryd.f54))))) Q (dag_row_all_fn1.e1 yield4 A_t55 n_t55 c_t55 t66 s) w :=
  loop_of_eq ng mix (dag_row_all_fn1.e1 yield4 A_t55 n_t55 c_t55 t66) I μ dag_row_all_fn1.k dag_row_all_fn1.u1 s (fun s Q w => dag_row_all_fn1.B1 yield4 A_t55 n_t55 c_t55 t66 (s) Q w) (fun s Q w => dag_row_all_fn1.b1 yield4 A_t55 n_t55 c_t55 t66 (s) Q w) h0 round
def dag_row_all_fn1.X1_0 (yield10 : Nat) (A_t511 : Option Addr) (n_t511 : Nat) (c_t511 : Nat) (t612 : Int) (t713 : Int) (K : Value → World → Prop) (w : World) : Prop :=
  K (.tuple #[]) w
theorem dag_row_all_fn1.x1_0 (yield10 : Nat) (A_t511 : Option Addr) (n_t511 : Nat) (c_t511 : Nat) (t612 : Int) (t713 : Int) (K : Value → World → Prop) (w : World) : (dag_row_all_fn1.q1 K (.exit 0) [(0, .func (.yield yield10) #[] #[]), (5, .slice A_t511 n_t511 c_t511), (6, .int .i64 t612), (7, .int .i64 t713)] w) = dag_row_all_fn1.X1_0 yield10 A_t511 n_t511 c_t511 t612 t713 K w := by kernel_rfl
def dag_row_all_fn1.B2 (yield14 : Nat) (i15 : Int) (w_16 : Int) (A_t517 : Option Addr) (n_t517 : Nat) (c_t517 : Nat) (t618 : Int) (t719 : Int) (Q : Post) (w : World) : Prop :=
  Split (w_16 != (0 : Int)) (Ret Tryd.prog 55 #[.int .u64 w_16] w fun v20 w_21 => ∃ t2222 : Int, v20 = .int .i64 t2222 ∧ YieldsTo Tryd.prog yield14 #[.int .i64 (IntKind.i64.wrap ((IntKind.i64.wrap ((64 : Int) * i15)) + t2222))] w_21 fun b23 w_24 => Split (!b23) (Q .ret [(0, .func (.yield yield14) #[] #[]), (3, .int .i64 i15), (4, .int .u64 w_16), (5, .slice A_t517 n_t517 c_t517), (6, .int .i64 t618), (7, .int .i64 t719)] w_24) (Q .normal [(0, .func (.yield yield14) #[] #[]), (3, .int .i64 i15), (4, .int .u64 (IntKind.u64.wrap ((BitVec.ofInt 64 w_16 &&& BitVec.ofInt 64 (IntKind.u64.wrap (w_16 - (1 : Int)))).toNat))), (5, .slice A_t517 n_t517 c_t517), (6, .int .i64 t618), (7, .int .i64 t719)] w_24)) (Q (.exit 2) [(0, .func (.yield yield14) #[] #[]), (3, .int .i64 i15), (4, .int .u64 w_16), (5, .slice A_t517 n_t517 c_t517), (6, .int .i64 t618), (7, .int .i64 t719)] w)
theorem dag_row_all_fn1.b2 (yield14 : Nat) (i15 : Int) (w_16 : Int) (A_t517 : Option Addr) (n_t517 : Nat) (c_t517 : Nat) (t618 : Int) (t719 : Int) (Q : Post) (w : World) : (codeW none [] Tryd.prog 27 dag_row_all_fn1.k (lB (bB (sR (bB (sL (sR (sR (lB (bB (sR (body Tryd.f54))))))))))) dag_row_all_fn1.u2 Q [(0, .func (.yield yield14) #[] #[]), (3, .int .i64 i15), (4, .int .u64 w_16), (5, .slice A_t517 n_t517 c_t517), (6, .int .i64 t618), (7, .int .i64 t719)] w) = dag_row_all_fn1.B2 yield14 i15 w_16 A_t517 n_t517 c_t517 t618 t719 Q w := by kernel_rfl
theorem dag_row_all_fn1.loop2 {yield14 : Nat} {i15 : Int} {A_t517 : Option Addr} {n_t517 : Nat} {c_t517 : Nat} {t618 : Int} {t719 : Int} (I : Int → World → Prop) (μ : Int → World → Nat) (s : Int) {Q : Post} {w : World} (h0 : I s w)
    (round : ∀ s w, I s w → dag_row_all_fn1.B2 yield14 i15 (s) A_t517 n_t517 c_t517 t618 t719 (roundQ (dag_row_all_fn1.e2 yield14 i15 A_t517 n_t517 c_t517 t618 t719) I μ s w Q) w) : Holds none [] Tryd.prog 27 (.loop (lB (bB (sR (bB (sL (sR (sR (lB (bB (sR (body Tryd.f54)))))))))))) Q (dag_row_all_fn1.e2 yield14 i15 A_t517 n_t517 c_t517 t618 t719 s) w :=
  loop_of_eq ng mix (dag_row_all_fn1.e2 yield14 i15 A_t517 n_t517 c_t517 t618 t719) I μ dag_row_all_fn1.k dag_row_all_fn1.u2 s (fun s Q w => dag_row_all_fn1.B2 yield14 i15 (s) A_t517 n_t517 c_t517 t618 t719 Q w) (fun s Q w => dag_row_all_fn1.b2 yield14 i15 (s) A_t517 n_t517 c_t517 t618 t719 Q w) h0 round
def dag_row_all_fn1.X2_2 (yield25 : Nat) (i26 : Int) (w_27 : Int) (A_t528 : Option Addr) (n_t528 : Nat) (c_t528 : Nat) (t629 : Int) (t730 : Int) (Q : Post) (w : World) : Prop :=
  Q .normal [(0, .func (.yield yield25) #[] #[]), (5, .slice A_t528 n_t528 c_t528), (6, .int .i64 t629), (7, .int .i64 (IntKind.i64.wrap (t730 + (1 : Int))))] w
theorem dag_row_all_fn1.x2_2 (yield25 : Nat) (i26 : Int) (w_27 : Int) (A_t528 : Option Addr) (n_t528 : Nat) (c_t528 : Nat) (t629 : Int) (t730 : Int) (Q : Post) (w : World) : (dag_row_all_fn1.q2 Q (.exit 2) [(0, .func (.yield yield25) #[] #[]), (3, .int .i64 i26), (4, .int .u64 w_27), (5, .slice A_t528 n_t528 c_t528), (6, .int .i64 t629), (7, .int .i64 t730)] w) = dag_row_all_fn1.X2_2 yield25 i26 w_27 A_t528 n_t528 c_t528 t629 t730 Q w := by kernel_rfl
/-! ### 66: slices.Values[[]plexus/api.Hash,plexus/api.Hash]$1 -/
def slices_Values_of_api_Hash_fn1.k : List Nat := []
def slices_Values_of_api_Hash_fn1.q1 (K : Value → World → Prop) : Post := (blockQ 0 (resSlots Tryd.f66) (funQ Tryd.prog Tryd.f66 K))
def slices_Values_of_api_Hash_fn1.e1 (yield4 : Nat) (A_t55 : Option Addr) (n_t55 : Nat) (c_t55 : Nat) (t66 : Int) (s : Int) : Env := [(0, .func (.yield yield4) #[] #[]), (5, .slice A_t55 n_t55 c_t55), (6, .int .i64 t66), (7, .int .i64 s)]
def slices_Values_of_api_Hash_fn1.u1 : List Nat := [0, 5, 6, 7]
def slices_Values_of_api_Hash_fn1.W (l1 : Nat) (cap2 : Addr) (K : Value → World → Prop) (w : World) : Prop :=
  ∃ A_t53 : Option Addr, ∃ n_t53 : Nat, ∃ c_t53 : Nat, w.cell? cap2 = some (.slice A_t53 n_t53 c_t53) ∧ Holds none [] Tryd.prog 16 (.loop (lB (bB (sR (body Tryd.f66))))) (slices_Values_of_api_Hash_fn1.q1 K) [(0, .func (.yield l1) #[] #[]), (5, .slice A_t53 n_t53 c_t53), (6, .int .i64 (n_t53 : Int)), (7, .int .i64 0)] w
theorem slices_Values_of_api_Hash_fn1.s (l1 : Nat) (cap2 : Addr) (K : Value → World → Prop) (w : World) : (codeW none [] Tryd.prog Tryd.f66.ntmps slices_Values_of_api_Hash_fn1.k (body Tryd.f66) (resSlots Tryd.f66) (funQ Tryd.prog Tryd.f66 K) (argEnv [.func (.yield l1) #[] #[], .pointer (some cap2)] 0) w) = slices_Values_of_api_Hash_fn1.W l1 cap2 K w := by kernel_rfl
theorem slices_Values_of_api_Hash_fn1.of {l1 : Nat} {cap2 : Addr} {K : Value → World → Prop} {w : World} (h : slices_Values_of_api_Hash_fn1.W l1 cap2 K w) : Ret Tryd.prog 66 #[.func (.yield l1) #[] #[], .pointer (some cap2)] w K :=
  ret_of_eq (C := slices_Values_of_api_Hash_fn1.k) (fn := Tryd.f66) (c := body Tryd.f66) ng mix Tryd.func66 (by kernel_rfl) (by kernel_rfl) (slices_Values_of_api_Hash_fn1.s l1 cap2 K w) h
def slices_Values_of_api_Hash_fn1.B1 (yield4 : Nat) (A_t55 : Option Addr) (n_t55 : Nat) (c_t55 : Nat) (t66 : Int) (t77 : Int) (Q : Post) (w : World) : Prop :=
  Split (decide (t77 < t66)) ((0 ≤ t77 ∧ t77 < (n_t55 : Int)) ∧ Is A_t55 fun a8 : Addr => ∃ t109 : Array Value, (t109.size = 32 ∧ Cells w (a8.add (t77.toNat * 32)) t109) ∧ let w_10 : World := w.alloc (.cells (#[.int .u8 0, .int .u8 0, .int .u8 0, .int .u8 0, .int .u8 0, .int .u8 0, .int .u8 0, .int .u8 0, .int .u8 0, .int .u8 0, .int .u8 0, .int .u8 0, .int .u8 0, .int .u8 0, .int .u8 0, .int .u8 0, .int .u8 0, .int .u8 0, .int .u8 0, .int .u8 0, .int .u8 0, .int .u8 0, .int .u8 0, .int .u8 0, .int .u8 0, .int .u8 0, .int .u8 0, .int .u8 0, .int .u8 0, .int .u8 0, .int .u8 0, .int .u8 0] : Array Value) 23); (t109.size = 32 ∧ (∀ c11 ∈ t109.toList, c11.oneCell' = true) ∧ ∀ j12, j12 < 32 → Wr w_10 ((⟨w.heap.size, 0, none⟩ : Addr).add j12)) ∧ let w_13 : World := setCells w_10 (⟨w.heap.size, 0, none⟩ : Addr) t109.toList 0; ∃ t1214 : Array Value, (t1214.size = 32 ∧ Cells w_13 (⟨w.heap.size, 0, none⟩ : Addr) t1214) ∧ YieldsTo Tryd.prog yield4 #[.agg t1214] w_13 fun b15 w_16 => Split (!b15) (Q .ret [(0, .func (.yield yield4) #[] #[]), (5, .slice A_t55 n_t55 c_t55), (6, .int .i64 t66), (7, .int .i64 t77)] w_16) (Q .normal [(0, .func (.yield yield4) #[] #[]), (5, .slice A_t55 n_t55 c_t55), (6, .int .i64 t66), (7, .int .i64 (IntKind.i64.wrap (t77 + (1 : Int))))] w_16)) (Q (.exit 0) [(0, .func (.yield yield4) #[] #[]), (5, .slice A_t55 n_t55 c_t55), (6, .int .i64 t66), (7, .int .i64 t77)] w)
theorem slices_Values_of_api_Hash_fn1.b1 (yield4 : Nat) (A_t55 : Option Addr) (n_t55 : Nat) (c_t55 : Nat) (t66 : Int) (t77 : Int) (Q : Post) (w : World) : (codeW none [] Tryd.prog 16 slices_Values_of_api_Hash_fn1.k (lB (bB (sR (body Tryd.f66)))) slices_Values_of_api_Hash_fn1.u1 Q [(0, .func (.yield yield4) #[] #[]), (5, .slice A_t55 n_t55 c_t55), (6, .int .i64 t66), (7, .int .i64 t77)] w) = slices_Values_of_api_Hash_fn1.B1 yield4 A_t55 n_t55 c_t55 t66 t77 Q w := by kernel_rfl
theorem slices_Values_of_api_Hash_fn1.loop1 {yield4 : Nat} {A_t55 : Option Addr} {n_t55 : Nat} {c_t55 : Nat} {t66 : Int} (I : Int → World → Prop) (μ : Int → World → Nat) (s : Int) {Q : Post} {w : World} (h0 : I s w)
    (round : ∀ s w, I s w → slices_Values_of_api_Hash_fn1.B1 yield4 A_t55 n_t55 c_t55 t66 (s) (roundQ (slices_Values_of_api_Hash_fn1.e1 yield4 A_t55 n_t55 c_t55 t66) I μ s w Q) w) : Holds none [] Tryd.prog 16 (.loop (lB (bB (sR (body Tryd.f66))))) Q (slices_Values_of_api_Hash_fn1.e1 yield4 A_t55 n_t55 c_t55 t66 s) w :=
  loop_of_eq ng mix (slices_Values_of_api_Hash_fn1.e1 yield4 A_t55 n_t55 c_t55 t66) I μ slices_Values_of_api_Hash_fn1.k slices_Values_of_api_Hash_fn1.u1 s (fun s Q w => slices_Values_of_api_Hash_fn1.B1 yield4 A_t55 n_t55 c_t55 t66 (s) Q w) (fun s Q w => slices_Values_of_api_Hash_fn1.b1 yield4 A_t55 n_t55 c_t55 t66 (s) Q w) h0 round
def slices_Values_of_api_Hash_fn1.X1_0 (yield17 : Nat) (A_t518 : Option Addr) (n_t518 : Nat) (c_t518 : Nat) (t619 : Int) (t720 : Int) (K : Value → World → Prop) (w : World) : Prop :=
  K (.tuple #[]) w
theorem slices_Values_of_api_Hash_fn1.x1_0 (yield17 : Nat) (A_t518 : Option Addr) (n_t518 : Nat) (c_t518 : Nat) (t619 : Int) (t720 : Int) (K : Value → World → Prop) (w : World) : (slices_Values_of_api_Hash_fn1.q1 K (.exit 0) [(0, .func (.yield yield17) #[] #[]), (5, .slice A_t518 n_t518 c_t518), (6, .int .i64 t619), (7, .int .i64 t720)] w) = slices_Values_of_api_Hash_fn1.X1_0 yield17 A_t518 n_t518 c_t518 t619 t720 K w := by kernel_rfl
end Go.Proofs.YtljckpecmlnbiaaDoor
