/- The code of functions, printed by a program. -/
import Derived.Test.YtfgcfaggklbpfaaGreatDoorEvK
import Derived.Test.YtfgcfaggklbpfaaGreatDoorEvF
import Derived.Test.YtfgcfaggklbpfaaGreatDoorProg
import Derived.KernelRfl
set_option linter.unnecessarySimpa false
set_option linter.unusedVariables false
set_option linter.unusedSimpArgs false
set_option linter.unusedSectionVars false
namespace Go.Ev
set_option maxRecDepth 10000
def ir_slices_IndexFunc_of_int_intL0 : IC :=
  .cut (.seq (.reg none [⟨some 9, .bin .lss (.t 8) (.t 7), none⟩] [0, 1, 7, 8, 9])
    (.seq (.cond (.t 9) (.skip)
    (.exit 0 []))
    (.seq (.block 1 (.seq (.reg none [⟨some 10, .mov (.t 8), none⟩,
        ⟨some 5, .mov (.t 10), none⟩] [0, 1, 5, 7, 8])
      (.seq (.reg none [⟨some 11, .mov (.t 1), none⟩,
        ⟨some 12, .mov (.t 0), none⟩,
        ⟨some 13, .mov (.t 5), none⟩,
        ⟨some 14, .iaddr none 1 (.t 12) (.t 13), none⟩,
        ⟨some 15, .load none (.t 14), none⟩,
        ⟨some 16, .call (.v (.t 11)) [(.t 15)], none⟩] [0, 1, 5, 7, 8, 16])
      (.cond (.t 16) (.seq (.reg none [⟨some 17, .mov (.t 5), none⟩,
          ⟨some 4, .mov (.t 17), none⟩] [4])
        (.ret [4]))
      (.skip)))))
    (.reg none [⟨some 18, .bin .add (.t 8) (.c (.i 1)), none⟩,
      ⟨some 8, .mov (.t 18), none⟩] [0, 1, 7, 8])))) [0, 1, 7, 8]
/-- slices.IndexFunc[[]int,int] -/
def ir_slices_IndexFunc_of_int_int : IF := ⟨2,
  .seq (.reg none [⟨some 4, .mov (.c (.i 0)), none⟩] [0, 1])
  (.seq (.seq (.reg none [⟨some 6, .mov (.t 0), none⟩,
    ⟨some 7, .len false (.t 6), none⟩,
    ⟨some 8, .mov (.c (.i 0)), none⟩] [0, 1, 7, 8])
  (.block 0 (.loop ir_slices_IndexFunc_of_int_intL0)))
  (.seq (.reg none [⟨some 4, .mov (.c (.i (-1))), none⟩] [4])
  (.ret [4]))),
  [.t 4], 0⟩

/-- (truss/check.sigma).class -/
def ir_check_sigma_class : IF := ⟨4,
  .seq (.reg none [⟨some 4, .box 2 (.t 0), none⟩,
    ⟨some 8, .alloc [(.i 0), (.i 0), (.i 0), (.sl true [])], none⟩,
    ⟨some 9, .mov (.c (.i 0)), none⟩] [1, 2, 3, 4, 8])
  (.ps [.ownAt 8 3 4] (.seq (.block 0 (.seq (.reg none [⟨some 11, .mov (.t 2), none⟩,
      ⟨some 12, .bin .eql (.t 11) (.c (.i 1)), none⟩,
      ⟨some 13, .mov (.t 12), none⟩,
      ⟨some 14, .mov (.t 3), some (13, true)⟩,
      ⟨some 15, .mov (.t 1), some (13, true)⟩,
      ⟨some 16, .len false (.t 15), some (13, true)⟩,
      ⟨some 17, .bin .lss (.t 14) (.t 16), some (13, true)⟩,
      ⟨some 18, .pick (.t 13) (.t 17) (.c (.b false)), none⟩,
      ⟨some 10, .mov (.t 18), none⟩] [1, 2, 3, 4, 8, 10])
    (.cond (.t 10) (.seq (.reg none [⟨some 19, .mov (.t 1), none⟩,
        ⟨some 20, .mov (.t 1), none⟩,
        ⟨some 21, .len false (.t 20), none⟩,
        ⟨some 22, .bin .sub (.t 21) (.c (.i 1)), none⟩,
        ⟨some 23, .mov (.t 3), none⟩,
        ⟨some 24, .bin .sub (.t 22) (.t 23), none⟩,
        ⟨some 25, .iaddr none 4 (.t 19) (.t 24), none⟩,
        ⟨some 26, .load (some 4) (.t 25), none⟩,
        ⟨some 27, .mov (.t 3), none⟩,
        ⟨some 28, .bin .add (.t 27) (.c (.i 1)), none⟩,
        ⟨some 29, .call (.f n_term_Shift) [(.t 26), (.t 28), (.c (.i 0))], none⟩,
        ⟨some 30, .extr 0 (.t 29), none⟩,
        ⟨some 31, .extr 1 (.t 29), none⟩,
        ⟨none, .store 4 (.t 8) (.t 30), none⟩,
        ⟨some 9, .mov (.t 31), none⟩] [8, 9])
      (.ret [8, 9]))
    (.seq (.reg none [⟨some 33, .mov (.t 2), none⟩,
        ⟨some 34, .bin .eql (.t 33) (.c (.i 3)), none⟩,
        ⟨some 35, .mov (.t 34), none⟩,
        ⟨some 36, .mov (.t 3), some (35, true)⟩,
        ⟨some 37, .faddr 1 (.t 4), some (35, true)⟩,
        ⟨some 38, .load none (.t 37), some (35, true)⟩,
        ⟨some 39, .len false (.t 38), some (35, true)⟩,
        ⟨some 40, .bin .lss (.t 36) (.t 39), some (35, true)⟩,
        ⟨some 41, .pick (.t 35) (.t 40) (.c (.b false)), none⟩,
        ⟨some 32, .mov (.t 41), none⟩] [2, 3, 4, 8, 32])
      (.cond (.t 32) (.seq (.reg none [⟨some 42, .faddr 1 (.t 4), none⟩,
          ⟨some 43, .load none (.t 42), none⟩,
          ⟨some 44, .mov (.t 3), none⟩,
          ⟨some 45, .iaddr none 10 (.t 43) (.t 44), none⟩,
          ⟨some 46, .faddr 1 (.t 45), none⟩,
          ⟨some 47, .load (some 4) (.t 46), none⟩,
          ⟨none, .store 4 (.t 8) (.t 47), none⟩,
          ⟨some 9, .mov (.c (.i 0)), none⟩] [8, 9])
        (.ret [8, 9]))
      (.seq (.reg none [⟨some 49, .mov (.t 2), none⟩,
          ⟨some 50, .bin .eql (.t 49) (.c (.i 2)), none⟩,
          ⟨some 51, .mov (.t 50), none⟩,
          ⟨some 52, .mov (.t 3), some (51, true)⟩,
          ⟨some 53, .faddr 0 (.t 4), some (51, true)⟩,
          ⟨some 54, .load none (.t 53), some (51, true)⟩,
          ⟨some 55, .len false (.t 54), some (51, true)⟩,
          ⟨some 56, .bin .lss (.t 52) (.t 55), some (51, true)⟩,
          ⟨some 57, .pick (.t 51) (.t 56) (.c (.b false)), none⟩,
          ⟨some 48, .mov (.t 57), none⟩] [3, 4, 8, 48])
        (.cond (.t 48) (.seq (.seq (.reg none [⟨some 58, .faddr 0 (.t 4), none⟩,
            ⟨some 59, .load none (.t 58), none⟩,
            ⟨some 60, .mov (.t 3), none⟩,
            ⟨some 61, .call (.f n_sign_Family) [(.t 59), (.t 60)], none⟩] [3, 4, 8, 61])
          (.cond (.t 61) (.seq (.reg none [⟨some 62, .build [(.i 0), (.i 0), (.i 0), (.sl true [])] [], none⟩,
              ⟨none, .store 4 (.t 8) (.t 62), none⟩,
              ⟨some 9, .mov (.c (.i 22)), none⟩] [8, 9])
            (.ret [8, 9]))
          (.skip)))
          (.seq (.reg none [⟨some 63, .faddr 0 (.t 4), none⟩,
            ⟨some 64, .load none (.t 63), none⟩,
            ⟨some 65, .mov (.t 3), none⟩,
            ⟨some 66, .iaddr none 6 (.t 64) (.t 65), none⟩,
            ⟨some 67, .faddr 1 (.t 66), none⟩,
            ⟨some 68, .load (some 4) (.t 67), none⟩,
            ⟨none, .store 4 (.t 8) (.t 68), none⟩,
            ⟨some 9, .mov (.c (.i 0)), none⟩] [8, 9])
          (.ret [8, 9])))
        (.skip))))))))
  (.seq (.reg none [⟨some 69, .build [(.i 0), (.i 0), (.i 0), (.sl true [])] [], none⟩,
    ⟨none, .store 4 (.t 8) (.t 69), none⟩,
    ⟨some 9, .mov (.c (.i 27)), none⟩] [8, 9])
  (.ret [8, 9])))),
  [.cell 8 (some 4), .t 9], 0⟩

end Go.Ev

/- The table of the functions, what is known of them beforehand, their equations; that their code is the loaded program's (by the kernel). -/
namespace Go.Ev
set_option maxRecDepth 10000
def TL : List (Nat × IF) := [(3, ir_law21_EnumKeys),
  (5, ir_law21_weigh),
  (6, ir_law21_awake),
  (7, ir_enum_Key),
  (8, ir_enum_Before),
  (9, ir_ref21_Object),
  (10, ir_law21_ints),
  (11, ir_ref21_Key),
  (12, ir_ref21_Before),
  (16, ir_ref03_App),
  (17, ir_enum_Terms),
  (18, ir_law21_nat),
  (19, ir_enum_Counts),
  (20, ir_ref03_Pi),
  (21, ir_ref03_Same),
  (22, ir_enum_isObject),
  (23, ir_enum_key),
  (24, ir_enum_before),
  (25, ir_ref03_Proper),
  (26, ir_ref21_object),
  (29, ir_term_Same),
  (42, ir_enum_objects),
  (43, ir_slices_Collect_api_Term),
  (44, ir_enum_nodes),
  (45, ir_term_Check),
  (46, ir_enum_isObject_1),
  (47, ir_slices_ContainsFunc_of_Term_api_Term),
  (48, ir_enum_isObject_1_1),
  (49, ir_slices_Compare_of_int_int),
  (50, ir_ref03_nodes),
  (51, ir_ref03_formed),
  (52, ir_slices_EqualFunc_of_Term_api_Term_api_Term_api_Term),
  (62, ir_sign_Check),
  (67, ir_enum_newLister),
  (68, ir_enum_objects_1),
  (69, ir_slices_Clone_of_Term_api_Term),
  (70, ir_enum_lister_all),
  (71, ir_slices_SortFunc_of_Term_api_Term),
  (72, ir_enum_objects_1_1),
  (73, ir_check_Object),
  (74, ir_enum_copied),
  (75, ir_slices_AppendSeq_of_Term_api_Term),
  (76, ir_term_proper),
  (77, ir_slices_IndexFunc_of_Term_api_Term),
  (78, ir_cmp_Compare_int),
  (89, ir_sign_each),
  (90, ir_sign_formed),
  (110, ir_check_Signature),
  (111, ir_check_Context),
  (112, ir_check_Type),
  (113, ir_term_Simple),
  (114, ir_enum_bounded),
  (115, ir_enum_lister_count),
  (116, ir_enum_at),
  (117, ir_enum_lister_heads),
  (118, ir_enum_lister_spines),
  (119, ir_enum_lister_all_1),
  (120, ir_slices_pdqsortCmpFunc_api_Term),
  (121, ir_math_bits_Len),
  (122, ir_check_good),
  (123, ir_check_over),
  (124, ir_check_kernel_isObject),
  (125, ir_cmp_isNaN_int),
  (128, ir_term_Copy),
  (132, ir_lexis_IsSmall),
  (136, ir_strconv_Itoa),
  (142, ir_sign_each_1),
  (143, ir_sign_name),
  (144, ir_term_Domains),
  (145, ir_term_Each),
  (146, ir_sign_formed_1),
  (147, ir_sign_kind),
  (148, ir_sign_target),
  (168, ir_sign_Family),
  (175, ir_check_class),
  (176, ir_check_kernel_isType),
  (177, ir_term_simple),
  (178, ir_enum_lister_ways),
  (179, ir_enum_texts),
  (180, ir_enum_text),
  (181, ir_enum_lister_heads_1),
  (182, ir_slices_insertionSortCmpFunc_api_Term),
  (191, ir_math_bits_Len64),
  (192, ir_slices_Concat_of_Term_api_Term),
  (193, ir_check_good_1),
  (194, ir_check_deeper),
  (195, ir_check_kernel_find),
  (198, ir_term_Map),
  (199, ir_term_Copy_1),
  (202, ir_lexis_name),
  (203, ir_lexis_small),
  (207, ir_internal_strconv_Itoa),
  (216, ir_term_Under),
  (253, ir_term_Shift),
  (258, ir_subst_Instance),
  (263, ir_check_kernel_isKind),
  (264, ir_check_kernel_pi),
  (265, ir_check_kernel_fit),
  (271, ir_slices_Grow_of_Term_api_Term),
  (275, ir_lexis_nameByte),
  (277, ir_internal_strconv_FormatInt),
  (280, ir_term_Moved),
  (303, ir_term_Shift_1),
  (308, ir_subst_good),
  (309, ir_subst_caught),
  (311, ir_subst_Small),
  (312, ir_subst_work_subst),
  (321, ir_internal_strconv_small),
  (326, ir_term_Moved_1),
  (345, ir_slices_ContainsFunc_of_Simple_api_Simple),
  (347, ir_slices_ContainsFunc_of_int_int),
  (349, ir_subst_small),
  (350, ir_subst_kept),
  (380, ir_slices_IndexFunc_of_Simple_api_Simple),
  (381, ir_slices_IndexFunc_of_int_int),
  (438, ir_check_sigma_class)]
def TT : FuncId → Option IF := fun f => TL.lookup f
def HH : Hook := fun f => if f = 69 then some (cloneH 4) else none
noncomputable abbrev R : Sem' := xcall (runV TT HH)
@[simp] theorem lt_law21_EnumKeys : n_law21_EnumKeys < YB := by decide
@[simp] theorem lt_law21_weigh : n_law21_weigh < YB := by decide
@[simp] theorem lt_law21_awake : n_law21_awake < YB := by decide
@[simp] theorem lt_enum_Key : n_enum_Key < YB := by decide
@[simp] theorem lt_enum_Before : n_enum_Before < YB := by decide
@[simp] theorem lt_ref21_Object : n_ref21_Object < YB := by decide
@[simp] theorem lt_law21_ints : n_law21_ints < YB := by decide
@[simp] theorem lt_ref21_Key : n_ref21_Key < YB := by decide
@[simp] theorem lt_ref21_Before : n_ref21_Before < YB := by decide
@[simp] theorem lt_ref03_App : n_ref03_App < YB := by decide
@[simp] theorem lt_enum_Terms : n_enum_Terms < YB := by decide
@[simp] theorem lt_law21_nat : n_law21_nat < YB := by decide
@[simp] theorem lt_enum_Counts : n_enum_Counts < YB := by decide
@[simp] theorem lt_ref03_Pi : n_ref03_Pi < YB := by decide
@[simp] theorem lt_ref03_Same : n_ref03_Same < YB := by decide
@[simp] theorem lt_enum_isObject : n_enum_isObject < YB := by decide
@[simp] theorem lt_enum_key : n_enum_key < YB := by decide
@[simp] theorem lt_enum_before : n_enum_before < YB := by decide
@[simp] theorem lt_ref03_Proper : n_ref03_Proper < YB := by decide
@[simp] theorem lt_ref21_object : n_ref21_object < YB := by decide
@[simp] theorem lt_term_Same : n_term_Same < YB := by decide
@[simp] theorem lt_enum_objects : n_enum_objects < YB := by decide
@[simp] theorem lt_slices_Collect_api_Term : n_slices_Collect_api_Term < YB := by decide
@[simp] theorem lt_enum_nodes : n_enum_nodes < YB := by decide
@[simp] theorem lt_term_Check : n_term_Check < YB := by decide
@[simp] theorem lt_enum_isObject_1 : n_enum_isObject_1 < YB := by decide
@[simp] theorem lt_slices_ContainsFunc_of_Term_api_Term : n_slices_ContainsFunc_of_Term_api_Term < YB := by decide
@[simp] theorem lt_enum_isObject_1_1 : n_enum_isObject_1_1 < YB := by decide
@[simp] theorem lt_slices_Compare_of_int_int : n_slices_Compare_of_int_int < YB := by decide
@[simp] theorem lt_ref03_nodes : n_ref03_nodes < YB := by decide
@[simp] theorem lt_ref03_formed : n_ref03_formed < YB := by decide
@[simp] theorem lt_slices_EqualFunc_of_Term_api_Term_api_Term_api_Term : n_slices_EqualFunc_of_Term_api_Term_api_Term_api_Term < YB := by decide
@[simp] theorem lt_sign_Check : n_sign_Check < YB := by decide
@[simp] theorem lt_enum_newLister : n_enum_newLister < YB := by decide
@[simp] theorem lt_enum_objects_1 : n_enum_objects_1 < YB := by decide
@[simp] theorem lt_slices_Clone_of_Term_api_Term : n_slices_Clone_of_Term_api_Term < YB := by decide
@[simp] theorem lt_enum_lister_all : n_enum_lister_all < YB := by decide
@[simp] theorem lt_slices_SortFunc_of_Term_api_Term : n_slices_SortFunc_of_Term_api_Term < YB := by decide
@[simp] theorem lt_enum_objects_1_1 : n_enum_objects_1_1 < YB := by decide
@[simp] theorem lt_check_Object : n_check_Object < YB := by decide
@[simp] theorem lt_enum_copied : n_enum_copied < YB := by decide
@[simp] theorem lt_slices_AppendSeq_of_Term_api_Term : n_slices_AppendSeq_of_Term_api_Term < YB := by decide
@[simp] theorem lt_term_proper : n_term_proper < YB := by decide
@[simp] theorem lt_slices_IndexFunc_of_Term_api_Term : n_slices_IndexFunc_of_Term_api_Term < YB := by decide
@[simp] theorem lt_cmp_Compare_int : n_cmp_Compare_int < YB := by decide
@[simp] theorem lt_sign_each : n_sign_each < YB := by decide
@[simp] theorem lt_sign_formed : n_sign_formed < YB := by decide
@[simp] theorem lt_term_Free : n_term_Free < YB := by decide
@[simp] theorem lt_enum_newLister_1 : n_enum_newLister_1 < YB := by decide
@[simp] theorem lt_check_Signature : n_check_Signature < YB := by decide
@[simp] theorem lt_check_Context : n_check_Context < YB := by decide
@[simp] theorem lt_check_Type : n_check_Type < YB := by decide
@[simp] theorem lt_term_Simple : n_term_Simple < YB := by decide
@[simp] theorem lt_enum_bounded : n_enum_bounded < YB := by decide
@[simp] theorem lt_enum_lister_count : n_enum_lister_count < YB := by decide
@[simp] theorem lt_enum_at : n_enum_at < YB := by decide
@[simp] theorem lt_enum_lister_heads : n_enum_lister_heads < YB := by decide
@[simp] theorem lt_enum_lister_spines : n_enum_lister_spines < YB := by decide
@[simp] theorem lt_enum_lister_all_1 : n_enum_lister_all_1 < YB := by decide
@[simp] theorem lt_slices_pdqsortCmpFunc_api_Term : n_slices_pdqsortCmpFunc_api_Term < YB := by decide
@[simp] theorem lt_math_bits_Len : n_math_bits_Len < YB := by decide
@[simp] theorem lt_check_good : n_check_good < YB := by decide
@[simp] theorem lt_check_over : n_check_over < YB := by decide
@[simp] theorem lt_check_kernel_isObject : n_check_kernel_isObject < YB := by decide
@[simp] theorem lt_cmp_isNaN_int : n_cmp_isNaN_int < YB := by decide
@[simp] theorem lt_term_Copy : n_term_Copy < YB := by decide
@[simp] theorem lt_lexis_IsSmall : n_lexis_IsSmall < YB := by decide
@[simp] theorem lt_strconv_Itoa : n_strconv_Itoa < YB := by decide
@[simp] theorem lt_sign_each_1 : n_sign_each_1 < YB := by decide
@[simp] theorem lt_sign_name : n_sign_name < YB := by decide
@[simp] theorem lt_term_Domains : n_term_Domains < YB := by decide
@[simp] theorem lt_term_Each : n_term_Each < YB := by decide
@[simp] theorem lt_sign_formed_1 : n_sign_formed_1 < YB := by decide
@[simp] theorem lt_sign_kind : n_sign_kind < YB := by decide
@[simp] theorem lt_sign_target : n_sign_target < YB := by decide
@[simp] theorem lt_sign_Family : n_sign_Family < YB := by decide
@[simp] theorem lt_check_class : n_check_class < YB := by decide
@[simp] theorem lt_check_kernel_isType : n_check_kernel_isType < YB := by decide
@[simp] theorem lt_term_simple : n_term_simple < YB := by decide
@[simp] theorem lt_enum_lister_ways : n_enum_lister_ways < YB := by decide
@[simp] theorem lt_enum_texts : n_enum_texts < YB := by decide
@[simp] theorem lt_enum_text : n_enum_text < YB := by decide
@[simp] theorem lt_enum_lister_heads_1 : n_enum_lister_heads_1 < YB := by decide
@[simp] theorem lt_slices_insertionSortCmpFunc_api_Term : n_slices_insertionSortCmpFunc_api_Term < YB := by decide
@[simp] theorem lt_slices_heapSortCmpFunc_api_Term : n_slices_heapSortCmpFunc_api_Term < YB := by decide
@[simp] theorem lt_slices_breakPatternsCmpFunc_api_Term : n_slices_breakPatternsCmpFunc_api_Term < YB := by decide
@[simp] theorem lt_slices_choosePivotCmpFunc_api_Term : n_slices_choosePivotCmpFunc_api_Term < YB := by decide
@[simp] theorem lt_slices_reverseRangeCmpFunc_api_Term : n_slices_reverseRangeCmpFunc_api_Term < YB := by decide
@[simp] theorem lt_slices_partialInsertionSortCmpFunc_api_Term : n_slices_partialInsertionSortCmpFunc_api_Term < YB := by decide
@[simp] theorem lt_slices_partitionEqualCmpFunc_api_Term : n_slices_partitionEqualCmpFunc_api_Term < YB := by decide
@[simp] theorem lt_slices_partitionCmpFunc_api_Term : n_slices_partitionCmpFunc_api_Term < YB := by decide
@[simp] theorem lt_math_bits_Len32 : n_math_bits_Len32 < YB := by decide
@[simp] theorem lt_math_bits_Len64 : n_math_bits_Len64 < YB := by decide
@[simp] theorem lt_slices_Concat_of_Term_api_Term : n_slices_Concat_of_Term_api_Term < YB := by decide
@[simp] theorem lt_check_good_1 : n_check_good_1 < YB := by decide
@[simp] theorem lt_check_deeper : n_check_deeper < YB := by decide
@[simp] theorem lt_check_kernel_find : n_check_kernel_find < YB := by decide
@[simp] theorem lt_term_Map : n_term_Map < YB := by decide
@[simp] theorem lt_term_Copy_1 : n_term_Copy_1 < YB := by decide
@[simp] theorem lt_lexis_name : n_lexis_name < YB := by decide
@[simp] theorem lt_lexis_small : n_lexis_small < YB := by decide
@[simp] theorem lt_internal_strconv_Itoa : n_internal_strconv_Itoa < YB := by decide
@[simp] theorem lt_term_Under : n_term_Under < YB := by decide
@[simp] theorem lt_lexis_capital : n_lexis_capital < YB := by decide
@[simp] theorem lt_lexis_digit : n_lexis_digit < YB := by decide
@[simp] theorem lt_term_Shift : n_term_Shift < YB := by decide
@[simp] theorem lt_subst_Instance : n_subst_Instance < YB := by decide
@[simp] theorem lt_check_kernel_isKind : n_check_kernel_isKind < YB := by decide
@[simp] theorem lt_check_kernel_pi : n_check_kernel_pi < YB := by decide
@[simp] theorem lt_check_kernel_fit : n_check_kernel_fit < YB := by decide
@[simp] theorem lt_slices_Grow_of_Term_api_Term : n_slices_Grow_of_Term_api_Term < YB := by decide
@[simp] theorem lt_lexis_nameByte : n_lexis_nameByte < YB := by decide
@[simp] theorem lt_internal_strconv_FormatInt : n_internal_strconv_FormatInt < YB := by decide
@[simp] theorem lt_term_Moved : n_term_Moved < YB := by decide
@[simp] theorem lt_term_Shift_1 : n_term_Shift_1 < YB := by decide
@[simp] theorem lt_subst_good : n_subst_good < YB := by decide
@[simp] theorem lt_subst_caught : n_subst_caught < YB := by decide
@[simp] theorem lt_subst_fail : n_subst_fail < YB := by decide
@[simp] theorem lt_subst_Small : n_subst_Small < YB := by decide
@[simp] theorem lt_subst_work_subst : n_subst_work_subst < YB := by decide
@[simp] theorem lt_internal_strconv_small : n_internal_strconv_small < YB := by decide
@[simp] theorem lt_internal_strconv_numDigits : n_internal_strconv_numDigits < YB := by decide
@[simp] theorem lt_internal_strconv_formatBits : n_internal_strconv_formatBits < YB := by decide
@[simp] theorem lt_term_Moved_1 : n_term_Moved_1 < YB := by decide
@[simp] theorem lt_slices_ContainsFunc_of_Simple_api_Simple : n_slices_ContainsFunc_of_Simple_api_Simple < YB := by decide
@[simp] theorem lt_subst_good_1 : n_subst_good_1 < YB := by decide
@[simp] theorem lt_slices_ContainsFunc_of_int_int : n_slices_ContainsFunc_of_int_int < YB := by decide
@[simp] theorem lt_subst_good_2 : n_subst_good_2 < YB := by decide
@[simp] theorem lt_subst_small : n_subst_small < YB := by decide
@[simp] theorem lt_subst_kept : n_subst_kept < YB := by decide
@[simp] theorem lt_subst_work_apply : n_subst_work_apply < YB := by decide
@[simp] theorem lt_subst_moved : n_subst_moved < YB := by decide
@[simp] theorem lt_slices_IndexFunc_of_Simple_api_Simple : n_slices_IndexFunc_of_Simple_api_Simple < YB := by decide
@[simp] theorem lt_slices_IndexFunc_of_int_int : n_slices_IndexFunc_of_int_int < YB := by decide
@[simp] theorem lt_subst_small_1 : n_subst_small_1 < YB := by decide
@[simp] theorem lt_check_sigma_class : n_check_sigma_class < YB := by decide
theorem eq_law21_EnumKeys (bars : List Nat) (a0 a1 : PV) (σ : Sto) : runV TT HH bars n_law21_EnumKeys [a0, a1] σ = callF TT HH ir_law21_EnumKeys bars [a0, a1] σ := runV_fn (by decide) (by kernel_rfl) (by kernel_rfl) (by decide) (by decide) bars _ σ rfl
theorem eq_law21_weigh (bars : List Nat) (a0 a1 : PV) (σ : Sto) : runV TT HH bars n_law21_weigh [a0, a1] σ = callF TT HH ir_law21_weigh bars [a0, a1] σ := runV_fn (by decide) (by kernel_rfl) (by kernel_rfl) (by decide) (by decide) bars _ σ rfl
theorem eq_law21_awake (bars : List Nat) (σ : Sto) : runV TT HH bars n_law21_awake [] σ = callF TT HH ir_law21_awake bars [] σ := runV_fn (by decide) (by kernel_rfl) (by kernel_rfl) (by decide) (by decide) bars _ σ rfl
theorem eq_enum_Key (bars : List Nat) (a0 : PV) (σ : Sto) : runV TT HH bars n_enum_Key [a0] σ = callF TT HH ir_enum_Key bars [a0] σ := runV_fn (by decide) (by kernel_rfl) (by kernel_rfl) (by decide) (by decide) bars _ σ rfl
theorem eq_enum_Before (bars : List Nat) (a0 a1 : PV) (σ : Sto) : runV TT HH bars n_enum_Before [a0, a1] σ = callF TT HH ir_enum_Before bars [a0, a1] σ := runV_fn (by decide) (by kernel_rfl) (by kernel_rfl) (by decide) (by decide) bars _ σ rfl
theorem eq_ref21_Object (bars : List Nat) (a0 : PV) (σ : Sto) : runV TT HH bars n_ref21_Object [a0] σ = callF TT HH ir_ref21_Object bars [a0] σ := runV_fn (by decide) (by kernel_rfl) (by kernel_rfl) (by decide) (by decide) bars _ σ rfl
theorem eq_law21_ints (bars : List Nat) (a0 a1 : PV) (σ : Sto) : runV TT HH bars n_law21_ints [a0, a1] σ = callF TT HH ir_law21_ints bars [a0, a1] σ := runV_fn (by decide) (by kernel_rfl) (by kernel_rfl) (by decide) (by decide) bars _ σ rfl
theorem eq_ref21_Key (bars : List Nat) (a0 : PV) (σ : Sto) : runV TT HH bars n_ref21_Key [a0] σ = callF TT HH ir_ref21_Key bars [a0] σ := runV_fn (by decide) (by kernel_rfl) (by kernel_rfl) (by decide) (by decide) bars _ σ rfl
theorem eq_ref21_Before (bars : List Nat) (a0 a1 : PV) (σ : Sto) : runV TT HH bars n_ref21_Before [a0, a1] σ = callF TT HH ir_ref21_Before bars [a0, a1] σ := runV_fn (by decide) (by kernel_rfl) (by kernel_rfl) (by decide) (by decide) bars _ σ rfl
theorem eq_ref03_App (bars : List Nat) (a0 a1 a2 : PV) (σ : Sto) : runV TT HH bars n_ref03_App [a0, a1, a2] σ = callF TT HH ir_ref03_App bars [a0, a1, a2] σ := runV_fn (by decide) (by kernel_rfl) (by kernel_rfl) (by decide) (by decide) bars _ σ rfl
theorem eq_enum_Terms (bars : List Nat) (a0 a1 a2 a3 : PV) (σ : Sto) : runV TT HH bars n_enum_Terms [a0, a1, a2, a3] σ = callF TT HH ir_enum_Terms bars [a0, a1, a2, a3] σ := runV_fn (by decide) (by kernel_rfl) (by kernel_rfl) (by decide) (by decide) bars _ σ rfl
theorem eq_law21_nat (bars : List Nat) (σ : Sto) : runV TT HH bars n_law21_nat [] σ = callF TT HH ir_law21_nat bars [] σ := runV_fn (by decide) (by kernel_rfl) (by kernel_rfl) (by decide) (by decide) bars _ σ rfl
theorem eq_enum_Counts (bars : List Nat) (a0 a1 a2 a3 : PV) (σ : Sto) : runV TT HH bars n_enum_Counts [a0, a1, a2, a3] σ = callF TT HH ir_enum_Counts bars [a0, a1, a2, a3] σ := runV_fn (by decide) (by kernel_rfl) (by kernel_rfl) (by decide) (by decide) bars _ σ rfl
theorem eq_ref03_Pi (bars : List Nat) (a0 a1 : PV) (σ : Sto) : runV TT HH bars n_ref03_Pi [a0, a1] σ = callF TT HH ir_ref03_Pi bars [a0, a1] σ := runV_fn (by decide) (by kernel_rfl) (by kernel_rfl) (by decide) (by decide) bars _ σ rfl
theorem eq_ref03_Same (bars : List Nat) (a0 a1 : PV) (σ : Sto) : runV TT HH bars n_ref03_Same [a0, a1] σ = callF TT HH ir_ref03_Same bars [a0, a1] σ := runV_fn (by decide) (by kernel_rfl) (by kernel_rfl) (by decide) (by decide) bars _ σ rfl
theorem eq_enum_isObject (bars : List Nat) (a0 : PV) (σ : Sto) : runV TT HH bars n_enum_isObject [a0] σ = callF TT HH ir_enum_isObject bars [a0] σ := runV_fn (by decide) (by kernel_rfl) (by kernel_rfl) (by decide) (by decide) bars _ σ rfl
theorem eq_enum_key (bars : List Nat) (a0 : PV) (σ : Sto) : runV TT HH bars n_enum_key [a0] σ = callF TT HH ir_enum_key bars [a0] σ := runV_fn (by decide) (by kernel_rfl) (by kernel_rfl) (by decide) (by decide) bars _ σ rfl
theorem eq_enum_before (bars : List Nat) (a0 a1 : PV) (σ : Sto) : runV TT HH bars n_enum_before [a0, a1] σ = callF TT HH ir_enum_before bars [a0, a1] σ := runV_fn (by decide) (by kernel_rfl) (by kernel_rfl) (by decide) (by decide) bars _ σ rfl
theorem eq_ref03_Proper (bars : List Nat) (a0 : PV) (σ : Sto) : runV TT HH bars n_ref03_Proper [a0] σ = callF TT HH ir_ref03_Proper bars [a0] σ := runV_fn (by decide) (by kernel_rfl) (by kernel_rfl) (by decide) (by decide) bars _ σ rfl
theorem eq_ref21_object (bars : List Nat) (a0 : PV) (σ : Sto) : runV TT HH bars n_ref21_object [a0] σ = callF TT HH ir_ref21_object bars [a0] σ := runV_fn (by decide) (by kernel_rfl) (by kernel_rfl) (by decide) (by decide) bars _ σ rfl
theorem eq_term_Same (bars : List Nat) (a0 a1 : PV) (σ : Sto) : runV TT HH bars n_term_Same [a0, a1] σ = callF TT HH ir_term_Same bars [a0, a1] σ := runV_fn (by decide) (by kernel_rfl) (by kernel_rfl) (by decide) (by decide) bars _ σ rfl
theorem eq_enum_objects (bars : List Nat) (a0 a1 a2 a3 : PV) (σ : Sto) : runV TT HH bars n_enum_objects [a0, a1, a2, a3] σ = callF TT HH ir_enum_objects bars [a0, a1, a2, a3] σ := runV_fn (by decide) (by kernel_rfl) (by kernel_rfl) (by decide) (by decide) bars _ σ rfl
theorem eq_slices_Collect_api_Term (bars : List Nat) (a0 : PV) (σ : Sto) : runV TT HH bars n_slices_Collect_api_Term [a0] σ = callF TT HH ir_slices_Collect_api_Term bars [a0] σ := runV_fn (by decide) (by kernel_rfl) (by kernel_rfl) (by decide) (by decide) bars _ σ rfl
theorem eq_enum_nodes (bars : List Nat) (a0 : PV) (σ : Sto) : runV TT HH bars n_enum_nodes [a0] σ = callF TT HH ir_enum_nodes bars [a0] σ := runV_fn (by decide) (by kernel_rfl) (by kernel_rfl) (by decide) (by decide) bars _ σ rfl
theorem eq_term_Check (bars : List Nat) (a0 : PV) (σ : Sto) : runV TT HH bars n_term_Check [a0] σ = callF TT HH ir_term_Check bars [a0] σ := runV_fn (by decide) (by kernel_rfl) (by kernel_rfl) (by decide) (by decide) bars _ σ rfl
theorem eq_enum_isObject_1 (bars : List Nat) (a0 a1 : PV) (σ : Sto) : runV TT HH bars n_enum_isObject_1 [a0, a1] σ = callF TT HH ir_enum_isObject_1 bars [a0, a1] σ := runV_fn (by decide) (by kernel_rfl) (by kernel_rfl) (by decide) (by decide) bars _ σ rfl
theorem eq_slices_ContainsFunc_of_Term_api_Term (bars : List Nat) (a0 a1 : PV) (σ : Sto) : runV TT HH bars n_slices_ContainsFunc_of_Term_api_Term [a0, a1] σ = callF TT HH ir_slices_ContainsFunc_of_Term_api_Term bars [a0, a1] σ := runV_fn (by decide) (by kernel_rfl) (by kernel_rfl) (by decide) (by decide) bars _ σ rfl
theorem eq_enum_isObject_1_1 (bars : List Nat) (a0 a1 : PV) (σ : Sto) : runV TT HH bars n_enum_isObject_1_1 [a0, a1] σ = callF TT HH ir_enum_isObject_1_1 bars [a0, a1] σ := runV_fn (by decide) (by kernel_rfl) (by kernel_rfl) (by decide) (by decide) bars _ σ rfl
theorem eq_slices_Compare_of_int_int (bars : List Nat) (a0 a1 : PV) (σ : Sto) : runV TT HH bars n_slices_Compare_of_int_int [a0, a1] σ = callF TT HH ir_slices_Compare_of_int_int bars [a0, a1] σ := runV_fn (by decide) (by kernel_rfl) (by kernel_rfl) (by decide) (by decide) bars _ σ rfl
theorem eq_ref03_nodes (bars : List Nat) (a0 a1 : PV) (σ : Sto) : runV TT HH bars n_ref03_nodes [a0, a1] σ = callF TT HH ir_ref03_nodes bars [a0, a1] σ := runV_fn (by decide) (by kernel_rfl) (by kernel_rfl) (by decide) (by decide) bars _ σ rfl
theorem eq_ref03_formed (bars : List Nat) (a0 a1 : PV) (σ : Sto) : runV TT HH bars n_ref03_formed [a0, a1] σ = callF TT HH ir_ref03_formed bars [a0, a1] σ := runV_fn (by decide) (by kernel_rfl) (by kernel_rfl) (by decide) (by decide) bars _ σ rfl
theorem eq_slices_EqualFunc_of_Term_api_Term_api_Term_api_Term (bars : List Nat) (a0 a1 a2 : PV) (σ : Sto) : runV TT HH bars n_slices_EqualFunc_of_Term_api_Term_api_Term_api_Term [a0, a1, a2] σ = callF TT HH ir_slices_EqualFunc_of_Term_api_Term_api_Term_api_Term bars [a0, a1, a2] σ := runV_fn (by decide) (by kernel_rfl) (by kernel_rfl) (by decide) (by decide) bars _ σ rfl
theorem eq_sign_Check (bars : List Nat) (a0 : PV) (σ : Sto) : runV TT HH bars n_sign_Check [a0] σ = callF TT HH ir_sign_Check bars [a0] σ := runV_fn (by decide) (by kernel_rfl) (by kernel_rfl) (by decide) (by decide) bars _ σ rfl
theorem eq_enum_newLister (bars : List Nat) (a0 a1 a2 a3 : PV) (σ : Sto) : runV TT HH bars n_enum_newLister [a0, a1, a2, a3] σ = callF TT HH ir_enum_newLister bars [a0, a1, a2, a3] σ := runV_fn (by decide) (by kernel_rfl) (by kernel_rfl) (by decide) (by decide) bars _ σ rfl
theorem eq_enum_objects_1 (bars : List Nat) (a0 a1 a2 a3 a4 a5 a6 a7 : PV) (σ : Sto) : runV TT HH bars n_enum_objects_1 [a0, a1, a2, a3, a4, a5, a6, a7] σ = callF TT HH ir_enum_objects_1 bars [a0, a1, a2, a3, a4, a5, a6, a7] σ := runV_fn (by decide) (by kernel_rfl) (by kernel_rfl) (by decide) (by decide) bars _ σ rfl
theorem eq_enum_lister_all (bars : List Nat) (a0 a1 a2 a3 : PV) (σ : Sto) : runV TT HH bars n_enum_lister_all [a0, a1, a2, a3] σ = callF TT HH ir_enum_lister_all bars [a0, a1, a2, a3] σ := runV_fn (by decide) (by kernel_rfl) (by kernel_rfl) (by decide) (by decide) bars _ σ rfl
theorem eq_slices_SortFunc_of_Term_api_Term (bars : List Nat) (a0 a1 : PV) (σ : Sto) : runV TT HH bars n_slices_SortFunc_of_Term_api_Term [a0, a1] σ = callF TT HH ir_slices_SortFunc_of_Term_api_Term bars [a0, a1] σ := runV_fn (by decide) (by kernel_rfl) (by kernel_rfl) (by decide) (by decide) bars _ σ rfl
theorem eq_enum_objects_1_1 (bars : List Nat) (a0 a1 : PV) (σ : Sto) : runV TT HH bars n_enum_objects_1_1 [a0, a1] σ = callF TT HH ir_enum_objects_1_1 bars [a0, a1] σ := runV_fn (by decide) (by kernel_rfl) (by kernel_rfl) (by decide) (by decide) bars _ σ rfl
theorem eq_check_Object (bars : List Nat) (a0 a1 a2 a3 a4 : PV) (σ : Sto) : runV TT HH bars n_check_Object [a0, a1, a2, a3, a4] σ = callF TT HH ir_check_Object bars [a0, a1, a2, a3, a4] σ := runV_fn (by decide) (by kernel_rfl) (by kernel_rfl) (by decide) (by decide) bars _ σ rfl
theorem eq_enum_copied (bars : List Nat) (a0 : PV) (σ : Sto) : runV TT HH bars n_enum_copied [a0] σ = callF TT HH ir_enum_copied bars [a0] σ := runV_fn (by decide) (by kernel_rfl) (by kernel_rfl) (by decide) (by decide) bars _ σ rfl
theorem eq_slices_AppendSeq_of_Term_api_Term (bars : List Nat) (a0 a1 : PV) (σ : Sto) : runV TT HH bars n_slices_AppendSeq_of_Term_api_Term [a0, a1] σ = callF TT HH ir_slices_AppendSeq_of_Term_api_Term bars [a0, a1] σ := runV_fn (by decide) (by kernel_rfl) (by kernel_rfl) (by decide) (by decide) bars _ σ rfl
theorem eq_term_proper (bars : List Nat) (a0 a1 a2 : PV) (σ : Sto) : runV TT HH bars n_term_proper [a0, a1, a2] σ = callF TT HH ir_term_proper bars [a0, a1, a2] σ := runV_fn (by decide) (by kernel_rfl) (by kernel_rfl) (by decide) (by decide) bars _ σ rfl
theorem eq_slices_IndexFunc_of_Term_api_Term (bars : List Nat) (a0 a1 : PV) (σ : Sto) : runV TT HH bars n_slices_IndexFunc_of_Term_api_Term [a0, a1] σ = callF TT HH ir_slices_IndexFunc_of_Term_api_Term bars [a0, a1] σ := runV_fn (by decide) (by kernel_rfl) (by kernel_rfl) (by decide) (by decide) bars _ σ rfl
theorem eq_cmp_Compare_int (bars : List Nat) (a0 a1 : PV) (σ : Sto) : runV TT HH bars n_cmp_Compare_int [a0, a1] σ = callF TT HH ir_cmp_Compare_int bars [a0, a1] σ := runV_fn (by decide) (by kernel_rfl) (by kernel_rfl) (by decide) (by decide) bars _ σ rfl
theorem eq_sign_each (bars : List Nat) (a0 : PV) (σ : Sto) : runV TT HH bars n_sign_each [a0] σ = callF TT HH ir_sign_each bars [a0] σ := runV_fn (by decide) (by kernel_rfl) (by kernel_rfl) (by decide) (by decide) bars _ σ rfl
theorem eq_sign_formed (bars : List Nat) (a0 a1 : PV) (σ : Sto) : runV TT HH bars n_sign_formed [a0, a1] σ = callF TT HH ir_sign_formed bars [a0, a1] σ := runV_fn (by decide) (by kernel_rfl) (by kernel_rfl) (by decide) (by decide) bars _ σ rfl
theorem eq_check_Signature (bars : List Nat) (a0 : PV) (σ : Sto) : runV TT HH bars n_check_Signature [a0] σ = callF TT HH ir_check_Signature bars [a0] σ := runV_fn (by decide) (by kernel_rfl) (by kernel_rfl) (by decide) (by decide) bars _ σ rfl
theorem eq_check_Context (bars : List Nat) (a0 a1 a2 : PV) (σ : Sto) : runV TT HH bars n_check_Context [a0, a1, a2] σ = callF TT HH ir_check_Context bars [a0, a1, a2] σ := runV_fn (by decide) (by kernel_rfl) (by kernel_rfl) (by decide) (by decide) bars _ σ rfl
theorem eq_check_Type (bars : List Nat) (a0 a1 a2 a3 : PV) (σ : Sto) : runV TT HH bars n_check_Type [a0, a1, a2, a3] σ = callF TT HH ir_check_Type bars [a0, a1, a2, a3] σ := runV_fn (by decide) (by kernel_rfl) (by kernel_rfl) (by decide) (by decide) bars _ σ rfl
theorem eq_term_Simple (bars : List Nat) (a0 : PV) (σ : Sto) : runV TT HH bars n_term_Simple [a0] σ = callF TT HH ir_term_Simple bars [a0] σ := runV_fn (by decide) (by kernel_rfl) (by kernel_rfl) (by decide) (by decide) bars _ σ rfl
theorem eq_enum_bounded (bars : List Nat) (a0 : PV) (σ : Sto) : runV TT HH bars n_enum_bounded [a0] σ = callF TT HH ir_enum_bounded bars [a0] σ := runV_fn (by decide) (by kernel_rfl) (by kernel_rfl) (by decide) (by decide) bars _ σ rfl
theorem eq_enum_lister_count (bars : List Nat) (a0 a1 a2 a3 : PV) (σ : Sto) : runV TT HH bars n_enum_lister_count [a0, a1, a2, a3] σ = callF TT HH ir_enum_lister_count bars [a0, a1, a2, a3] σ := runV_fn (by decide) (by kernel_rfl) (by kernel_rfl) (by decide) (by decide) bars _ σ rfl
theorem eq_enum_at (bars : List Nat) (a0 a1 a2 : PV) (σ : Sto) : runV TT HH bars n_enum_at [a0, a1, a2] σ = callF TT HH ir_enum_at bars [a0, a1, a2] σ := runV_fn (by decide) (by kernel_rfl) (by kernel_rfl) (by decide) (by decide) bars _ σ rfl
theorem eq_enum_lister_heads (bars : List Nat) (a0 a1 a2 : PV) (σ : Sto) : runV TT HH bars n_enum_lister_heads [a0, a1, a2] σ = callF TT HH ir_enum_lister_heads bars [a0, a1, a2] σ := runV_fn (by decide) (by kernel_rfl) (by kernel_rfl) (by decide) (by decide) bars _ σ rfl
theorem eq_enum_lister_spines (bars : List Nat) (a0 a1 a2 a3 a4 a5 : PV) (σ : Sto) : runV TT HH bars n_enum_lister_spines [a0, a1, a2, a3, a4, a5] σ = callF TT HH ir_enum_lister_spines bars [a0, a1, a2, a3, a4, a5] σ := runV_fn (by decide) (by kernel_rfl) (by kernel_rfl) (by decide) (by decide) bars _ σ rfl
theorem eq_enum_lister_all_1 (bars : List Nat) (a0 a1 a2 : PV) (σ : Sto) : runV TT HH bars n_enum_lister_all_1 [a0, a1, a2] σ = callF TT HH ir_enum_lister_all_1 bars [a0, a1, a2] σ := runV_fn (by decide) (by kernel_rfl) (by kernel_rfl) (by decide) (by decide) bars _ σ rfl
theorem eq_slices_pdqsortCmpFunc_api_Term (bars : List Nat) (a0 a1 a2 a3 a4 : PV) (σ : Sto) : runV TT HH bars n_slices_pdqsortCmpFunc_api_Term [a0, a1, a2, a3, a4] σ = callF TT HH ir_slices_pdqsortCmpFunc_api_Term bars [a0, a1, a2, a3, a4] σ := runV_fn (by decide) (by kernel_rfl) (by kernel_rfl) (by decide) (by decide) bars _ σ rfl
theorem eq_math_bits_Len (bars : List Nat) (a0 : PV) (σ : Sto) : runV TT HH bars n_math_bits_Len [a0] σ = callF TT HH ir_math_bits_Len bars [a0] σ := runV_fn (by decide) (by kernel_rfl) (by kernel_rfl) (by decide) (by decide) bars _ σ rfl
theorem eq_check_good (bars : List Nat) (a0 a1 a2 a3 : PV) (σ : Sto) : runV TT HH bars n_check_good [a0, a1, a2, a3] σ = callF TT HH ir_check_good bars [a0, a1, a2, a3] σ := runV_fn (by decide) (by kernel_rfl) (by kernel_rfl) (by decide) (by decide) bars _ σ rfl
theorem eq_check_over (bars : List Nat) (a0 a1 : PV) (σ : Sto) : runV TT HH bars n_check_over [a0, a1] σ = callF TT HH ir_check_over bars [a0, a1] σ := runV_fn (by decide) (by kernel_rfl) (by kernel_rfl) (by decide) (by decide) bars _ σ rfl
theorem eq_check_kernel_isObject (bars : List Nat) (a0 a1 a2 a3 : PV) (σ : Sto) : runV TT HH bars n_check_kernel_isObject [a0, a1, a2, a3] σ = callF TT HH ir_check_kernel_isObject bars [a0, a1, a2, a3] σ := runV_fn (by decide) (by kernel_rfl) (by kernel_rfl) (by decide) (by decide) bars _ σ rfl
theorem eq_cmp_isNaN_int (bars : List Nat) (a0 : PV) (σ : Sto) : runV TT HH bars n_cmp_isNaN_int [a0] σ = callF TT HH ir_cmp_isNaN_int bars [a0] σ := runV_fn (by decide) (by kernel_rfl) (by kernel_rfl) (by decide) (by decide) bars _ σ rfl
theorem eq_term_Copy (bars : List Nat) (a0 : PV) (σ : Sto) : runV TT HH bars n_term_Copy [a0] σ = callF TT HH ir_term_Copy bars [a0] σ := runV_fn (by decide) (by kernel_rfl) (by kernel_rfl) (by decide) (by decide) bars _ σ rfl
theorem eq_lexis_IsSmall (bars : List Nat) (a0 : PV) (σ : Sto) : runV TT HH bars n_lexis_IsSmall [a0] σ = callF TT HH ir_lexis_IsSmall bars [a0] σ := runV_fn (by decide) (by kernel_rfl) (by kernel_rfl) (by decide) (by decide) bars _ σ rfl
theorem eq_strconv_Itoa (bars : List Nat) (a0 : PV) (σ : Sto) : runV TT HH bars n_strconv_Itoa [a0] σ = callF TT HH ir_strconv_Itoa bars [a0] σ := runV_fn (by decide) (by kernel_rfl) (by kernel_rfl) (by decide) (by decide) bars _ σ rfl
theorem eq_sign_each_1 (bars : List Nat) (a0 a1 : PV) (σ : Sto) : runV TT HH bars n_sign_each_1 [a0, a1] σ = callF TT HH ir_sign_each_1 bars [a0, a1] σ := runV_fn (by decide) (by kernel_rfl) (by kernel_rfl) (by decide) (by decide) bars _ σ rfl
theorem eq_sign_name (bars : List Nat) (a0 : PV) (σ : Sto) : runV TT HH bars n_sign_name [a0] σ = callF TT HH ir_sign_name bars [a0] σ := runV_fn (by decide) (by kernel_rfl) (by kernel_rfl) (by decide) (by decide) bars _ σ rfl
theorem eq_term_Domains (bars : List Nat) (a0 : PV) (σ : Sto) : runV TT HH bars n_term_Domains [a0] σ = callF TT HH ir_term_Domains bars [a0] σ := runV_fn (by decide) (by kernel_rfl) (by kernel_rfl) (by decide) (by decide) bars _ σ rfl
theorem eq_term_Each (bars : List Nat) (a0 a1 a2 : PV) (σ : Sto) : runV TT HH bars n_term_Each [a0, a1, a2] σ = callF TT HH ir_term_Each bars [a0, a1, a2] σ := runV_fn (by decide) (by kernel_rfl) (by kernel_rfl) (by decide) (by decide) bars _ σ rfl
theorem eq_sign_formed_1 (bars : List Nat) (a0 a1 a2 a3 : PV) (σ : Sto) : runV TT HH bars n_sign_formed_1 [a0, a1, a2, a3] σ = callF TT HH ir_sign_formed_1 bars [a0, a1, a2, a3] σ := runV_fn (by decide) (by kernel_rfl) (by kernel_rfl) (by decide) (by decide) bars _ σ rfl
theorem eq_sign_kind (bars : List Nat) (a0 : PV) (σ : Sto) : runV TT HH bars n_sign_kind [a0] σ = callF TT HH ir_sign_kind bars [a0] σ := runV_fn (by decide) (by kernel_rfl) (by kernel_rfl) (by decide) (by decide) bars _ σ rfl
theorem eq_sign_target (bars : List Nat) (a0 : PV) (σ : Sto) : runV TT HH bars n_sign_target [a0] σ = callF TT HH ir_sign_target bars [a0] σ := runV_fn (by decide) (by kernel_rfl) (by kernel_rfl) (by decide) (by decide) bars _ σ rfl
theorem eq_sign_Family (bars : List Nat) (a0 a1 : PV) (σ : Sto) : runV TT HH bars n_sign_Family [a0, a1] σ = callF TT HH ir_sign_Family bars [a0, a1] σ := runV_fn (by decide) (by kernel_rfl) (by kernel_rfl) (by decide) (by decide) bars _ σ rfl
theorem eq_check_class (bars : List Nat) (a0 a1 : PV) (σ : Sto) : runV TT HH bars n_check_class [a0, a1] σ = callF TT HH ir_check_class bars [a0, a1] σ := runV_fn (by decide) (by kernel_rfl) (by kernel_rfl) (by decide) (by decide) bars _ σ rfl
theorem eq_check_kernel_isType (bars : List Nat) (a0 a1 a2 : PV) (σ : Sto) : runV TT HH bars n_check_kernel_isType [a0, a1, a2] σ = callF TT HH ir_check_kernel_isType bars [a0, a1, a2] σ := runV_fn (by decide) (by kernel_rfl) (by kernel_rfl) (by decide) (by decide) bars _ σ rfl
theorem eq_term_simple (bars : List Nat) (a0 : PV) (σ : Sto) : runV TT HH bars n_term_simple [a0] σ = callF TT HH ir_term_simple bars [a0] σ := runV_fn (by decide) (by kernel_rfl) (by kernel_rfl) (by decide) (by decide) bars _ σ rfl
theorem eq_enum_lister_ways (bars : List Nat) (a0 a1 a2 a3 : PV) (σ : Sto) : runV TT HH bars n_enum_lister_ways [a0, a1, a2, a3] σ = callF TT HH ir_enum_lister_ways bars [a0, a1, a2, a3] σ := runV_fn (by decide) (by kernel_rfl) (by kernel_rfl) (by decide) (by decide) bars _ σ rfl
theorem eq_enum_texts (bars : List Nat) (a0 : PV) (σ : Sto) : runV TT HH bars n_enum_texts [a0] σ = callF TT HH ir_enum_texts bars [a0] σ := runV_fn (by decide) (by kernel_rfl) (by kernel_rfl) (by decide) (by decide) bars _ σ rfl
theorem eq_enum_text (bars : List Nat) (a0 : PV) (σ : Sto) : runV TT HH bars n_enum_text [a0] σ = callF TT HH ir_enum_text bars [a0] σ := runV_fn (by decide) (by kernel_rfl) (by kernel_rfl) (by decide) (by decide) bars _ σ rfl
theorem eq_enum_lister_heads_1 (bars : List Nat) (a0 a1 a2 a3 : PV) (σ : Sto) : runV TT HH bars n_enum_lister_heads_1 [a0, a1, a2, a3] σ = callF TT HH ir_enum_lister_heads_1 bars [a0, a1, a2, a3] σ := runV_fn (by decide) (by kernel_rfl) (by kernel_rfl) (by decide) (by decide) bars _ σ rfl
theorem eq_slices_insertionSortCmpFunc_api_Term (bars : List Nat) (a0 a1 a2 a3 : PV) (σ : Sto) : runV TT HH bars n_slices_insertionSortCmpFunc_api_Term [a0, a1, a2, a3] σ = callF TT HH ir_slices_insertionSortCmpFunc_api_Term bars [a0, a1, a2, a3] σ := runV_fn (by decide) (by kernel_rfl) (by kernel_rfl) (by decide) (by decide) bars _ σ rfl
theorem eq_math_bits_Len64 (bars : List Nat) (a0 : PV) (σ : Sto) : runV TT HH bars n_math_bits_Len64 [a0] σ = callF TT HH ir_math_bits_Len64 bars [a0] σ := runV_fn (by decide) (by kernel_rfl) (by kernel_rfl) (by decide) (by decide) bars _ σ rfl
theorem eq_slices_Concat_of_Term_api_Term (bars : List Nat) (a0 : PV) (σ : Sto) : runV TT HH bars n_slices_Concat_of_Term_api_Term [a0] σ = callF TT HH ir_slices_Concat_of_Term_api_Term bars [a0] σ := runV_fn (by decide) (by kernel_rfl) (by kernel_rfl) (by decide) (by decide) bars _ σ rfl
theorem eq_check_good_1 (bars : List Nat) (a0 : PV) (σ : Sto) : runV TT HH bars n_check_good_1 [a0] σ = callF TT HH ir_check_good_1 bars [a0] σ := runV_fn (by decide) (by kernel_rfl) (by kernel_rfl) (by decide) (by decide) bars _ σ rfl
theorem eq_check_deeper (bars : List Nat) (a0 a1 : PV) (σ : Sto) : runV TT HH bars n_check_deeper [a0, a1] σ = callF TT HH ir_check_deeper bars [a0, a1] σ := runV_fn (by decide) (by kernel_rfl) (by kernel_rfl) (by decide) (by decide) bars _ σ rfl
theorem eq_check_kernel_find (bars : List Nat) (a0 a1 a2 : PV) (σ : Sto) : runV TT HH bars n_check_kernel_find [a0, a1, a2] σ = callF TT HH ir_check_kernel_find bars [a0, a1, a2] σ := runV_fn (by decide) (by kernel_rfl) (by kernel_rfl) (by decide) (by decide) bars _ σ rfl
theorem eq_term_Map (bars : List Nat) (a0 a1 a2 : PV) (σ : Sto) : runV TT HH bars n_term_Map [a0, a1, a2] σ = callF TT HH ir_term_Map bars [a0, a1, a2] σ := runV_fn (by decide) (by kernel_rfl) (by kernel_rfl) (by decide) (by decide) bars _ σ rfl
theorem eq_term_Copy_1 (bars : List Nat) (a0 a1 : PV) (σ : Sto) : runV TT HH bars n_term_Copy_1 [a0, a1] σ = callF TT HH ir_term_Copy_1 bars [a0, a1] σ := runV_fn (by decide) (by kernel_rfl) (by kernel_rfl) (by decide) (by decide) bars _ σ rfl
theorem eq_lexis_name (bars : List Nat) (a0 a1 : PV) (σ : Sto) : runV TT HH bars n_lexis_name [a0, a1] σ = callF TT HH ir_lexis_name bars [a0, a1] σ := runV_fn (by decide) (by kernel_rfl) (by kernel_rfl) (by decide) (by decide) bars _ σ rfl
theorem eq_lexis_small (bars : List Nat) (a0 : PV) (σ : Sto) : runV TT HH bars n_lexis_small [a0] σ = callF TT HH ir_lexis_small bars [a0] σ := runV_fn (by decide) (by kernel_rfl) (by kernel_rfl) (by decide) (by decide) bars _ σ rfl
theorem eq_internal_strconv_Itoa (bars : List Nat) (a0 : PV) (σ : Sto) : runV TT HH bars n_internal_strconv_Itoa [a0] σ = callF TT HH ir_internal_strconv_Itoa bars [a0] σ := runV_fn (by decide) (by kernel_rfl) (by kernel_rfl) (by decide) (by decide) bars _ σ rfl
theorem eq_term_Under (bars : List Nat) (a0 a1 : PV) (σ : Sto) : runV TT HH bars n_term_Under [a0, a1] σ = callF TT HH ir_term_Under bars [a0, a1] σ := runV_fn (by decide) (by kernel_rfl) (by kernel_rfl) (by decide) (by decide) bars _ σ rfl
theorem eq_term_Shift (bars : List Nat) (a0 a1 a2 : PV) (σ : Sto) : runV TT HH bars n_term_Shift [a0, a1, a2] σ = callF TT HH ir_term_Shift bars [a0, a1, a2] σ := runV_fn (by decide) (by kernel_rfl) (by kernel_rfl) (by decide) (by decide) bars _ σ rfl
theorem eq_check_kernel_isKind (bars : List Nat) (a0 a1 a2 : PV) (σ : Sto) : runV TT HH bars n_check_kernel_isKind [a0, a1, a2] σ = callF TT HH ir_check_kernel_isKind bars [a0, a1, a2] σ := runV_fn (by decide) (by kernel_rfl) (by kernel_rfl) (by decide) (by decide) bars _ σ rfl
theorem eq_check_kernel_pi (bars : List Nat) (a0 a1 a2 a3 : PV) (σ : Sto) : runV TT HH bars n_check_kernel_pi [a0, a1, a2, a3] σ = callF TT HH ir_check_kernel_pi bars [a0, a1, a2, a3] σ := runV_fn (by decide) (by kernel_rfl) (by kernel_rfl) (by decide) (by decide) bars _ σ rfl
theorem eq_check_kernel_fit (bars : List Nat) (a0 a1 a2 a3 : PV) (σ : Sto) : runV TT HH bars n_check_kernel_fit [a0, a1, a2, a3] σ = callF TT HH ir_check_kernel_fit bars [a0, a1, a2, a3] σ := runV_fn (by decide) (by kernel_rfl) (by kernel_rfl) (by decide) (by decide) bars _ σ rfl
theorem eq_slices_Grow_of_Term_api_Term (bars : List Nat) (a0 a1 : PV) (σ : Sto) : runV TT HH bars n_slices_Grow_of_Term_api_Term [a0, a1] σ = callF TT HH ir_slices_Grow_of_Term_api_Term bars [a0, a1] σ := runV_fn (by decide) (by kernel_rfl) (by kernel_rfl) (by decide) (by decide) bars _ σ rfl
theorem eq_lexis_nameByte (bars : List Nat) (a0 : PV) (σ : Sto) : runV TT HH bars n_lexis_nameByte [a0] σ = callF TT HH ir_lexis_nameByte bars [a0] σ := runV_fn (by decide) (by kernel_rfl) (by kernel_rfl) (by decide) (by decide) bars _ σ rfl
theorem eq_internal_strconv_FormatInt (bars : List Nat) (a0 a1 : PV) (σ : Sto) : runV TT HH bars n_internal_strconv_FormatInt [a0, a1] σ = callF TT HH ir_internal_strconv_FormatInt bars [a0, a1] σ := runV_fn (by decide) (by kernel_rfl) (by kernel_rfl) (by decide) (by decide) bars _ σ rfl
theorem eq_term_Moved (bars : List Nat) (a0 a1 a2 : PV) (σ : Sto) : runV TT HH bars n_term_Moved [a0, a1, a2] σ = callF TT HH ir_term_Moved bars [a0, a1, a2] σ := runV_fn (by decide) (by kernel_rfl) (by kernel_rfl) (by decide) (by decide) bars _ σ rfl
theorem eq_term_Shift_1 (bars : List Nat) (a0 a1 a2 a3 a4 a5 : PV) (σ : Sto) : runV TT HH bars n_term_Shift_1 [a0, a1, a2, a3, a4, a5] σ = callF TT HH ir_term_Shift_1 bars [a0, a1, a2, a3, a4, a5] σ := runV_fn (by decide) (by kernel_rfl) (by kernel_rfl) (by decide) (by decide) bars _ σ rfl
theorem eq_subst_good (bars : List Nat) (a0 a1 a2 : PV) (σ : Sto) : runV TT HH bars n_subst_good [a0, a1, a2] σ = callF TT HH ir_subst_good bars [a0, a1, a2] σ := runV_fn (by decide) (by kernel_rfl) (by kernel_rfl) (by decide) (by decide) bars _ σ rfl
theorem eq_subst_Small (bars : List Nat) (a0 : PV) (σ : Sto) : runV TT HH bars n_subst_Small [a0] σ = callF TT HH ir_subst_Small bars [a0] σ := runV_fn (by decide) (by kernel_rfl) (by kernel_rfl) (by decide) (by decide) bars _ σ rfl
theorem eq_subst_work_subst (bars : List Nat) (a0 a1 a2 a3 a4 : PV) (σ : Sto) : runV TT HH bars n_subst_work_subst [a0, a1, a2, a3, a4] σ = callF TT HH ir_subst_work_subst bars [a0, a1, a2, a3, a4] σ := runV_fn (by decide) (by kernel_rfl) (by kernel_rfl) (by decide) (by decide) bars _ σ rfl
theorem eq_internal_strconv_small (bars : List Nat) (a0 : PV) (σ : Sto) : runV TT HH bars n_internal_strconv_small [a0] σ = callF TT HH ir_internal_strconv_small bars [a0] σ := runV_fn (by decide) (by kernel_rfl) (by kernel_rfl) (by decide) (by decide) bars _ σ rfl
theorem eq_term_Moved_1 (bars : List Nat) (a0 a1 a2 a3 : PV) (σ : Sto) : runV TT HH bars n_term_Moved_1 [a0, a1, a2, a3] σ = callF TT HH ir_term_Moved_1 bars [a0, a1, a2, a3] σ := runV_fn (by decide) (by kernel_rfl) (by kernel_rfl) (by decide) (by decide) bars _ σ rfl
theorem eq_slices_ContainsFunc_of_Simple_api_Simple (bars : List Nat) (a0 a1 : PV) (σ : Sto) : runV TT HH bars n_slices_ContainsFunc_of_Simple_api_Simple [a0, a1] σ = callF TT HH ir_slices_ContainsFunc_of_Simple_api_Simple bars [a0, a1] σ := runV_fn (by decide) (by kernel_rfl) (by kernel_rfl) (by decide) (by decide) bars _ σ rfl
theorem eq_slices_ContainsFunc_of_int_int (bars : List Nat) (a0 a1 : PV) (σ : Sto) : runV TT HH bars n_slices_ContainsFunc_of_int_int [a0, a1] σ = callF TT HH ir_slices_ContainsFunc_of_int_int bars [a0, a1] σ := runV_fn (by decide) (by kernel_rfl) (by kernel_rfl) (by decide) (by decide) bars _ σ rfl
theorem eq_subst_small (bars : List Nat) (a0 a1 : PV) (σ : Sto) : runV TT HH bars n_subst_small [a0, a1] σ = callF TT HH ir_subst_small bars [a0, a1] σ := runV_fn (by decide) (by kernel_rfl) (by kernel_rfl) (by decide) (by decide) bars _ σ rfl
theorem eq_subst_kept (bars : List Nat) (a0 : PV) (σ : Sto) : runV TT HH bars n_subst_kept [a0] σ = callF TT HH ir_subst_kept bars [a0] σ := runV_fn (by decide) (by kernel_rfl) (by kernel_rfl) (by decide) (by decide) bars _ σ rfl
theorem eq_slices_IndexFunc_of_Simple_api_Simple (bars : List Nat) (a0 a1 : PV) (σ : Sto) : runV TT HH bars n_slices_IndexFunc_of_Simple_api_Simple [a0, a1] σ = callF TT HH ir_slices_IndexFunc_of_Simple_api_Simple bars [a0, a1] σ := runV_fn (by decide) (by kernel_rfl) (by kernel_rfl) (by decide) (by decide) bars _ σ rfl
theorem eq_slices_IndexFunc_of_int_int (bars : List Nat) (a0 a1 : PV) (σ : Sto) : runV TT HH bars n_slices_IndexFunc_of_int_int [a0, a1] σ = callF TT HH ir_slices_IndexFunc_of_int_int bars [a0, a1] σ := runV_fn (by decide) (by kernel_rfl) (by kernel_rfl) (by decide) (by decide) bars _ σ rfl
theorem eq_check_sigma_class (bars : List Nat) (a0 a1 a2 a3 : PV) (σ : Sto) : runV TT HH bars n_check_sigma_class [a0, a1, a2, a3] σ = callF TT HH ir_check_sigma_class bars [a0, a1, a2, a3] σ := runV_fn (by decide) (by kernel_rfl) (by kernel_rfl) (by decide) (by decide) bars _ σ rfl
theorem TL_ok : (TL.all fun p => chkF Go.Proofs.Tryz.prog p.1 p.2) = true := by kernel_rfl
theorem TL_mem {l : List (Nat × IF)} {f : Nat} {fn : IF} (h : l.lookup f = some fn) : (f, fn) ∈ l := by
  induction l with
  | nil => cases h
  | cons p r ih =>
    obtain ⟨a, b⟩ := p
    rw [List.lookup_cons] at h
    split at h
    · rename_i he
      rw [beq_iff_eq] at he
      cases h; subst he; exact List.mem_cons_self
    · exact List.mem_cons_of_mem _ (ih h)
theorem TT_ok (f : FuncId) (fn : IF) (h : TT f = some fn) : chkF Go.Proofs.Tryz.prog f fn = true := List.all_eq_true.1 TL_ok (f, fn) (TL_mem h)
theorem hook_slices_Clone_of_Term_api_Term (args : List PV) (σ : Sto) (r : Out × Sto) (hr : cloneH 4 args σ = some r) : callable Go.Proofs.Tryz.prog 69 ∧ ∀ bars κ w (xs : Array Value), @INV (CR Go.Proofs.Tryz.prog) bars κ σ w → RelL κ args xs.toList → below.belowAll σ.length args = true → Calls Go.Proofs.Tryz.prog 69 xs w (@CallPost (CR Go.Proofs.Tryz.prog) bars κ σ w r) :=
  cloneH_ok (zero := [(.i 0), (.i 0), (.i 0), (.sl true [])]) (by kernel_rfl) rfl (by decide) args σ r hr
theorem HH_ok : @HookOK (CR Go.Proofs.Tryz.prog) Go.Proofs.Tryz.prog HH := by
  intro f h hh
  unfold HH at hh
  by_cases h69 : f = 69
  · rw [if_pos h69] at hh; cases hh; subst h69; exact hook_slices_Clone_of_Term_api_Term
  rw [if_neg h69] at hh
  cases hh
theorem R_ok : @CallsOK (CR Go.Proofs.Tryz.prog) Go.Proofs.Tryz.prog (runV TT HH) := @runV_sound (CR Go.Proofs.Tryz.prog) Go.Proofs.Tryz.prog (fun _ _ _ => Iff.rfl) TT TT_ok HH HH_ok
end Go.Ev
