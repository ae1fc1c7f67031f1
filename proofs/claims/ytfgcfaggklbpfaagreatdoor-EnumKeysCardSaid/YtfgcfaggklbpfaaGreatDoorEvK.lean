/- The code of functions, printed by a program. -/
import Derived.Test.YtfgcfaggklbpfaaGreatDoorEvA
set_option linter.unnecessarySimpa false
set_option linter.unusedVariables false
set_option linter.unusedSimpArgs false
set_option linter.unusedSectionVars false
namespace Go.Ev
set_option maxRecDepth 10000
def n_law21_EnumKeys : FuncId := 3
def n_law21_weigh : FuncId := 5
def n_law21_awake : FuncId := 6
def n_enum_Key : FuncId := 7
def n_enum_Before : FuncId := 8
def n_ref21_Object : FuncId := 9
def n_law21_ints : FuncId := 10
def n_ref21_Key : FuncId := 11
def n_ref21_Before : FuncId := 12
def n_ref03_App : FuncId := 16
def n_enum_Terms : FuncId := 17
def n_law21_nat : FuncId := 18
def n_enum_Counts : FuncId := 19
def n_ref03_Pi : FuncId := 20
def n_ref03_Same : FuncId := 21
def n_enum_isObject : FuncId := 22
def n_enum_key : FuncId := 23
def n_enum_before : FuncId := 24
def n_ref03_Proper : FuncId := 25
def n_ref21_object : FuncId := 26
def n_term_Same : FuncId := 29
def n_enum_objects : FuncId := 42
def n_slices_Collect_api_Term : FuncId := 43
def n_enum_nodes : FuncId := 44
def n_term_Check : FuncId := 45
def n_enum_isObject_1 : FuncId := 46
def n_slices_ContainsFunc_of_Term_api_Term : FuncId := 47
def n_enum_isObject_1_1 : FuncId := 48
def n_slices_Compare_of_int_int : FuncId := 49
def n_ref03_nodes : FuncId := 50
def n_ref03_formed : FuncId := 51
def n_slices_EqualFunc_of_Term_api_Term_api_Term_api_Term : FuncId := 52
def n_sign_Check : FuncId := 62
def n_enum_newLister : FuncId := 67
def n_enum_objects_1 : FuncId := 68
def n_slices_Clone_of_Term_api_Term : FuncId := 69
def n_enum_lister_all : FuncId := 70
def n_slices_SortFunc_of_Term_api_Term : FuncId := 71
def n_enum_objects_1_1 : FuncId := 72
def n_check_Object : FuncId := 73
def n_enum_copied : FuncId := 74
def n_slices_AppendSeq_of_Term_api_Term : FuncId := 75
def n_term_proper : FuncId := 76
def n_slices_IndexFunc_of_Term_api_Term : FuncId := 77
def n_cmp_Compare_int : FuncId := 78
def n_sign_each : FuncId := 89
def n_sign_formed : FuncId := 90
def n_term_Free : FuncId := 100
def n_enum_newLister_1 : FuncId := 109
def n_check_Signature : FuncId := 110
def n_check_Context : FuncId := 111
def n_check_Type : FuncId := 112
def n_term_Simple : FuncId := 113
def n_enum_bounded : FuncId := 114
def n_enum_lister_count : FuncId := 115
def n_enum_at : FuncId := 116
def n_enum_lister_heads : FuncId := 117
def n_enum_lister_spines : FuncId := 118
def n_enum_lister_all_1 : FuncId := 119
def n_slices_pdqsortCmpFunc_api_Term : FuncId := 120
def n_math_bits_Len : FuncId := 121
def n_check_good : FuncId := 122
def n_check_over : FuncId := 123
def n_check_kernel_isObject : FuncId := 124
def n_cmp_isNaN_int : FuncId := 125
def n_term_Copy : FuncId := 128
def n_lexis_IsSmall : FuncId := 132
def n_strconv_Itoa : FuncId := 136
def n_sign_each_1 : FuncId := 142
def n_sign_name : FuncId := 143
def n_term_Domains : FuncId := 144
def n_term_Each : FuncId := 145
def n_sign_formed_1 : FuncId := 146
def n_sign_kind : FuncId := 147
def n_sign_target : FuncId := 148
def n_sign_Family : FuncId := 168
def n_check_class : FuncId := 175
def n_check_kernel_isType : FuncId := 176
def n_term_simple : FuncId := 177
def n_enum_lister_ways : FuncId := 178
def n_enum_texts : FuncId := 179
def n_enum_text : FuncId := 180
def n_enum_lister_heads_1 : FuncId := 181
def n_slices_insertionSortCmpFunc_api_Term : FuncId := 182
def n_slices_heapSortCmpFunc_api_Term : FuncId := 183
def n_slices_breakPatternsCmpFunc_api_Term : FuncId := 184
def n_slices_choosePivotCmpFunc_api_Term : FuncId := 185
def n_slices_reverseRangeCmpFunc_api_Term : FuncId := 186
def n_slices_partialInsertionSortCmpFunc_api_Term : FuncId := 187
def n_slices_partitionEqualCmpFunc_api_Term : FuncId := 188
def n_slices_partitionCmpFunc_api_Term : FuncId := 189
def n_math_bits_Len32 : FuncId := 190
def n_math_bits_Len64 : FuncId := 191
def n_slices_Concat_of_Term_api_Term : FuncId := 192
def n_check_good_1 : FuncId := 193
def n_check_deeper : FuncId := 194
def n_check_kernel_find : FuncId := 195
def n_term_Map : FuncId := 198
def n_term_Copy_1 : FuncId := 199
def n_lexis_name : FuncId := 202
def n_lexis_small : FuncId := 203
def n_internal_strconv_Itoa : FuncId := 207
def n_term_Under : FuncId := 216
def n_lexis_capital : FuncId := 222
def n_lexis_digit : FuncId := 225
def n_term_Shift : FuncId := 253
def n_subst_Instance : FuncId := 258
def n_check_kernel_isKind : FuncId := 263
def n_check_kernel_pi : FuncId := 264
def n_check_kernel_fit : FuncId := 265
def n_slices_Grow_of_Term_api_Term : FuncId := 271
def n_lexis_nameByte : FuncId := 275
def n_internal_strconv_FormatInt : FuncId := 277
def n_term_Moved : FuncId := 280
def n_term_Shift_1 : FuncId := 303
def n_subst_good : FuncId := 308
def n_subst_caught : FuncId := 309
def n_subst_fail : FuncId := 310
def n_subst_Small : FuncId := 311
def n_subst_work_subst : FuncId := 312
def n_internal_strconv_small : FuncId := 321
def n_internal_strconv_numDigits : FuncId := 322
def n_internal_strconv_formatBits : FuncId := 324
def n_term_Moved_1 : FuncId := 326
def n_slices_ContainsFunc_of_Simple_api_Simple : FuncId := 345
def n_subst_good_1 : FuncId := 346
def n_slices_ContainsFunc_of_int_int : FuncId := 347
def n_subst_good_2 : FuncId := 348
def n_subst_small : FuncId := 349
def n_subst_kept : FuncId := 350
def n_subst_work_apply : FuncId := 351
def n_subst_moved : FuncId := 352
def n_slices_IndexFunc_of_Simple_api_Simple : FuncId := 380
def n_slices_IndexFunc_of_int_int : FuncId := 381
def n_subst_small_1 : FuncId := 382
def n_check_sigma_class : FuncId := 438
/-- truss/trusslaw21.EnumKeys -/
def ir_law21_EnumKeys : IF := ⟨2,
  .seq (.reg none [⟨some 2, .box 4 (.t 0), none⟩,
    ⟨some 3, .box 4 (.t 1), none⟩,
    ⟨some 4, .mov (.c (.b false)), none⟩] [2, 3])
  (.ps [.ownAt 2 3 4, .ownAt 3 3 4] (.seq (.seq (.reg none [⟨some 9, .load (some 4) (.t 2), none⟩,
    ⟨some 10, .call (.f n_law21_weigh) [(.t 9), (.c (.i 0))], none⟩,
    ⟨some 11, .bin .gtr (.t 10) (.c (.i 2000)), none⟩,
    ⟨some 12, .mov (.t 11), none⟩,
    ⟨some 13, .load (some 4) (.t 3), some (12, false)⟩,
    ⟨some 14, .call (.f n_law21_weigh) [(.t 13), (.c (.i 0))], some (12, false)⟩,
    ⟨some 15, .bin .gtr (.t 14) (.c (.i 2000)), some (12, false)⟩,
    ⟨some 16, .pick (.t 12) (.c (.b true)) (.t 15), none⟩] [2, 3, 16])
  (.cond (.t 16) (.seq (.reg none [⟨some 17, .call (.f n_law21_awake) [], none⟩,
      ⟨some 4, .mov (.t 17), none⟩] [4])
    (.ret [4]))
  (.skip)))
  (.seq (.reg none [⟨some 19, .load (some 4) (.t 2), none⟩,
    ⟨some 20, .call (.f n_enum_Key) [(.t 19)], none⟩,
    ⟨some 18, .mov (.t 20), none⟩,
    ⟨some 21, .extr 0 (.t 18), none⟩,
    ⟨some 22, .extr 1 (.t 18), none⟩,
    ⟨some 5, .mov (.t 21), none⟩,
    ⟨some 6, .mov (.t 22), none⟩] [2, 3, 5, 6])
  (.seq (.reg none [⟨some 24, .load (some 4) (.t 2), none⟩,
    ⟨some 25, .load (some 4) (.t 3), none⟩,
    ⟨some 26, .call (.f n_enum_Before) [(.t 24), (.t 25)], none⟩,
    ⟨some 23, .mov (.t 26), none⟩,
    ⟨some 27, .extr 0 (.t 23), none⟩,
    ⟨some 28, .extr 1 (.t 23), none⟩,
    ⟨some 7, .mov (.t 27), none⟩,
    ⟨some 8, .mov (.t 28), none⟩] [2, 3, 5, 6, 7, 8])
  (.seq (.seq (.reg none [⟨some 29, .load (some 4) (.t 2), none⟩,
    ⟨some 30, .call (.f n_ref21_Object) [(.t 29)], none⟩,
    ⟨some 31, .not (.t 30), none⟩] [2, 3, 5, 6, 7, 8, 31])
  (.cond (.t 31) (.seq (.reg none [⟨some 32, .mov (.t 5), none⟩,
      ⟨some 33, .len false (.t 32), none⟩,
      ⟨some 34, .bin .eql (.t 33) (.c (.i 0)), none⟩,
      ⟨some 35, .mov (.t 34), none⟩,
      ⟨some 36, .mov (.t 6), some (35, true)⟩,
      ⟨some 37, .bin .eql (.t 36) (.c (.i 2)), some (35, true)⟩,
      ⟨some 38, .pick (.t 35) (.t 37) (.c (.b false)), none⟩,
      ⟨some 39, .mov (.t 38), none⟩,
      ⟨some 40, .mov (.t 7), some (39, true)⟩,
      ⟨some 41, .not (.t 40), some (39, true)⟩,
      ⟨some 42, .pick (.t 39) (.t 41) (.c (.b false)), none⟩,
      ⟨some 43, .mov (.t 42), none⟩,
      ⟨some 44, .mov (.t 8), some (43, true)⟩,
      ⟨some 45, .bin .eql (.t 44) (.c (.i 2)), some (43, true)⟩,
      ⟨some 46, .pick (.t 43) (.t 45) (.c (.b false)), none⟩,
      ⟨some 47, .mov (.t 46), none⟩,
      ⟨some 48, .call (.f n_law21_awake) [], some (47, true)⟩,
      ⟨some 49, .pick (.t 47) (.t 48) (.c (.b false)), none⟩,
      ⟨some 4, .mov (.t 49), none⟩] [4])
    (.ret [4]))
  (.skip)))
  (.seq (.seq (.reg none [⟨some 50, .mov (.t 6), none⟩,
    ⟨some 51, .bin .neq (.t 50) (.c (.i 0)), none⟩,
    ⟨some 52, .mov (.t 51), none⟩,
    ⟨some 53, .mov (.t 5), some (52, false)⟩,
    ⟨some 54, .load (some 4) (.t 2), some (52, false)⟩,
    ⟨some 55, .call (.f n_ref21_Key) [(.t 54)], some (52, false)⟩,
    ⟨some 56, .call (.f n_law21_ints) [(.t 53), (.t 55)], some (52, false)⟩,
    ⟨some 57, .not (.t 56), some (52, false)⟩,
    ⟨some 58, .pick (.t 52) (.c (.b true)) (.t 57), none⟩] [2, 3, 7, 8, 58])
  (.cond (.t 58) (.seq (.reg none [⟨some 4, .mov (.c (.b false)), none⟩] [4])
    (.ret [4]))
  (.skip)))
  (.seq (.seq (.reg none [⟨some 59, .load (some 4) (.t 3), none⟩,
    ⟨some 60, .call (.f n_ref21_Object) [(.t 59)], none⟩,
    ⟨some 61, .not (.t 60), none⟩] [2, 3, 7, 8, 61])
  (.cond (.t 61) (.seq (.reg none [⟨some 62, .mov (.t 7), none⟩,
      ⟨some 63, .not (.t 62), none⟩,
      ⟨some 64, .mov (.t 63), none⟩,
      ⟨some 65, .mov (.t 8), some (64, true)⟩,
      ⟨some 66, .bin .eql (.t 65) (.c (.i 2)), some (64, true)⟩,
      ⟨some 67, .pick (.t 64) (.t 66) (.c (.b false)), none⟩,
      ⟨some 68, .mov (.t 67), none⟩,
      ⟨some 69, .call (.f n_law21_awake) [], some (68, true)⟩,
      ⟨some 70, .pick (.t 68) (.t 69) (.c (.b false)), none⟩,
      ⟨some 4, .mov (.t 70), none⟩] [4])
    (.ret [4]))
  (.skip)))
  (.seq (.reg none [⟨some 71, .mov (.t 7), none⟩,
    ⟨some 72, .load (some 4) (.t 2), none⟩,
    ⟨some 73, .load (some 4) (.t 3), none⟩,
    ⟨some 74, .call (.f n_ref21_Before) [(.t 72), (.t 73)], none⟩,
    ⟨some 75, .beq false (.t 71) (.t 74), none⟩,
    ⟨some 76, .mov (.t 75), none⟩,
    ⟨some 77, .mov (.t 8), some (76, true)⟩,
    ⟨some 78, .bin .eql (.t 77) (.c (.i 0)), some (76, true)⟩,
    ⟨some 79, .pick (.t 76) (.t 78) (.c (.b false)), none⟩,
    ⟨some 80, .mov (.t 79), none⟩,
    ⟨some 81, .call (.f n_law21_awake) [], some (80, true)⟩,
    ⟨some 82, .pick (.t 80) (.t 81) (.c (.b false)), none⟩,
    ⟨some 4, .mov (.t 82), none⟩] [4])
  (.ret [4]))))))))),
  [.t 4], 0⟩

def ir_law21_weighL0 : IC :=
  .cut (.seq (.seq (.reg none [⟨some 9, .mov (.t 6), none⟩,
      ⟨some 10, .faddr 3 (.t 2), none⟩,
      ⟨some 11, .load none (.t 10), none⟩,
      ⟨some 12, .len false (.t 11), none⟩,
      ⟨some 13, .bin .lss (.t 9) (.t 12), none⟩,
      ⟨some 14, .mov (.t 13), none⟩,
      ⟨some 15, .mov (.t 5), some (14, true)⟩,
      ⟨some 16, .bin .leq (.t 15) (.c (.i 2000)), some (14, true)⟩,
      ⟨some 17, .pick (.t 14) (.t 16) (.c (.b false)), none⟩] [1, 2, 5, 6, 17])
    (.cond (.t 17) (.skip)
    (.exit 0 [5])))
    (.seq (.block 1 (.reg none [⟨some 20, .mov (.t 5), none⟩,
        ⟨some 21, .faddr 3 (.t 2), none⟩,
        ⟨some 22, .load none (.t 21), none⟩,
        ⟨some 23, .mov (.t 6), none⟩,
        ⟨some 24, .iaddr none 4 (.t 22) (.t 23), none⟩,
        ⟨some 25, .load (some 4) (.t 24), none⟩,
        ⟨some 26, .mov (.t 1), none⟩,
        ⟨some 27, .bin .add (.t 26) (.c (.i 1)), none⟩,
        ⟨some 28, .call (.f n_law21_weigh) [(.t 25), (.t 27)], none⟩,
        ⟨some 29, .bin .add (.t 20) (.t 28), none⟩,
        ⟨some 5, .mov (.t 29), none⟩] [1, 2, 5, 6]))
    (.reg none [⟨some 18, .mov (.t 6), none⟩,
      ⟨some 19, .bin .add (.t 18) (.c (.i 1)), none⟩,
      ⟨some 6, .mov (.t 19), none⟩] [1, 2, 5, 6]))) [1, 2, 5, 6]
/-- truss/trusslaw21.weigh -/
def ir_law21_weigh : IF := ⟨2,
  .seq (.reg none [⟨some 2, .box 4 (.t 0), none⟩,
    ⟨some 4, .mov (.c (.i 0)), none⟩] [1, 2])
  (.ps [.ownAt 2 3 4] (.seq (.seq (.reg none [⟨some 7, .mov (.t 1), none⟩,
    ⟨some 8, .bin .gtr (.t 7) (.c (.i 100)), none⟩] [1, 2, 8])
  (.cond (.t 8) (.seq (.reg none [⟨some 4, .mov (.c (.i 4000)), none⟩] [4])
    (.ret [4]))
  (.skip)))
  (.seq (.reg none [⟨some 5, .mov (.c (.i 1)), none⟩] [1, 2, 5])
  (.seq (.seq (.reg none [⟨some 6, .mov (.c (.i 0)), none⟩] [1, 2, 5, 6])
  (.block 0 (.loop ir_law21_weighL0)))
  (.seq (.reg none [⟨some 30, .mov (.t 5), none⟩,
    ⟨some 4, .mov (.t 30), none⟩] [4])
  (.ret [4])))))),
  [.t 4], 0⟩

/-- truss/trusslaw21.awake -/
def ir_law21_awake : IF := ⟨0,
  .seq (.reg none [⟨some 0, .mov (.c (.b false)), none⟩] [])
  (.seq (.reg none [⟨some 6, .call (.f n_ref03_App) [(.c (.i 2)), (.c (.i 0)), (.c (.sl true []))], none⟩,
    ⟨some 1, .alloc [(.i 0), (.i 0), (.i 0), (.sl true [])], none⟩,
    ⟨none, .store 4 (.t 1) (.t 6), none⟩] [1])
  (.ps [.ownAt 1 3 4] (.seq (.reg (some [(0, none), (1, none), (2, none), (3, none), (4, none), (5, none), (6, none), (7, none)]) [⟨some 8, .callq (.f n_law21_nat) [], none⟩,
    ⟨some 9, .load (some 4) (.t 1), none⟩,
    ⟨some 10, .call (.f n_enum_Terms) [(.t 8), (.c (.sl true [])), (.t 9), (.c (.i 3))], none⟩,
    ⟨some 7, .mov (.t 10), none⟩,
    ⟨some 11, .extr 0 (.t 7), none⟩,
    ⟨some 12, .extr 1 (.t 7), none⟩,
    ⟨some 2, .mov (.t 11), none⟩,
    ⟨some 3, .mov (.t 12), none⟩] [1, 2, 3])
  (.seq (.reg (some [(0, none), (1, none), (2, none), (3, none), (4, none), (5, none), (6, none), (7, none), (8, none), (9, none)]) [⟨some 14, .callq (.f n_law21_nat) [], none⟩,
    ⟨some 15, .load (some 4) (.t 1), none⟩,
    ⟨some 16, .load (some 4) (.t 1), none⟩,
    ⟨some 17, .call (.f n_ref03_Pi) [(.t 15), (.t 16)], none⟩,
    ⟨some 18, .call (.f n_enum_Counts) [(.t 14), (.c (.sl true [])), (.t 17), (.c (.i 3))], none⟩,
    ⟨some 13, .mov (.t 18), none⟩,
    ⟨some 19, .extr 0 (.t 13), none⟩,
    ⟨some 20, .extr 1 (.t 13), none⟩,
    ⟨some 4, .mov (.t 19), none⟩,
    ⟨some 5, .mov (.t 20), none⟩] [2, 3, 4, 5])
  (.seq (.seq (.reg (some [(0, none), (1, none), (2, none), (3, none), (4, none), (5, none), (6, none), (7, none), (8, none), (9, none), (10, none), (11, none), (12, none), (13, none), (14, none), (15, none), (16, none), (17, none), (18, none), (19, none), (20, none), (21, none), (22, none), (23, none), (24, none), (25, none), (26, none)]) [⟨some 21, .mov (.t 3), none⟩,
    ⟨some 22, .bin .neq (.t 21) (.c (.i 0)), none⟩,
    ⟨some 23, .mov (.t 22), none⟩,
    ⟨some 24, .mov (.t 2), some (23, false)⟩,
    ⟨some 25, .len false (.t 24), some (23, false)⟩,
    ⟨some 26, .bin .neq (.t 25) (.c (.i 3)), some (23, false)⟩,
    ⟨some 27, .pick (.t 23) (.c (.b true)) (.t 26), none⟩,
    ⟨some 28, .mov (.t 27), none⟩,
    ⟨some 29, .mov (.t 2), some (28, false)⟩,
    ⟨some 30, .iaddr none 4 (.t 29) (.c (.i 1)), some (28, false)⟩,
    ⟨some 31, .load (some 4) (.t 30), some (28, false)⟩,
    ⟨some 32, .callq (.f n_ref03_App) [(.c (.i 2)), (.c (.i 1)), (.c (.sl true []))], some (28, false)⟩,
    ⟨some 33, .bslice 4 1 [(.i 0), (.i 0), (.i 0), (.sl true [])] [(0, (.t 32))], some (28, false)⟩,
    ⟨some 34, .callq (.f n_ref03_App) [(.c (.i 2)), (.c (.i 2)), (.t 33)], some (28, false)⟩,
    ⟨some 35, .call (.f n_ref03_Same) [(.t 31), (.t 34)], some (28, false)⟩,
    ⟨some 36, .not (.t 35), some (28, false)⟩,
    ⟨some 37, .pick (.t 28) (.c (.b true)) (.t 36), none⟩,
    ⟨some 38, .mov (.t 37), none⟩,
    ⟨some 39, .mov (.t 5), some (38, false)⟩,
    ⟨some 40, .bin .neq (.t 39) (.c (.i 0)), some (38, false)⟩,
    ⟨some 41, .pick (.t 38) (.c (.b true)) (.t 40), none⟩,
    ⟨some 42, .mov (.t 41), none⟩,
    ⟨some 43, .mov (.t 4), some (42, false)⟩,
    ⟨some 44, .bslice 1 4 [(.i 0)] [(0, (.c (.i 0))), (1, (.c (.i 0))), (2, (.c (.i 2))), (3, (.c (.i 2)))], some (42, false)⟩,
    ⟨some 45, .call (.f n_law21_ints) [(.t 43), (.t 44)], some (42, false)⟩,
    ⟨some 46, .not (.t 45), some (42, false)⟩,
    ⟨some 47, .pick (.t 42) (.c (.b true)) (.t 46), none⟩] [47])
  (.cond (.t 47) (.seq (.reg none [⟨some 0, .mov (.c (.b false)), none⟩] [0])
    (.ret [0]))
  (.skip)))
  (.seq (.reg none [⟨some 0, .mov (.c (.b true)), none⟩] [0])
  (.ret [0]))))))),
  [.t 0], 0⟩

/-- truss/enum.Key -/
def ir_enum_Key : IF := ⟨1,
  .seq (.reg none [⟨some 1, .box 4 (.t 0), none⟩,
    ⟨some 2, .mov (.c (.sl true [])), none⟩,
    ⟨some 3, .mov (.c (.i 0)), none⟩] [1])
  (.ps [.ownAt 1 3 4] (.seq (.seq (.reg none [⟨some 4, .load (some 4) (.t 1), none⟩,
    ⟨some 5, .call (.f n_enum_isObject) [(.t 4)], none⟩,
    ⟨some 6, .not (.t 5), none⟩] [1, 6])
  (.cond (.t 6) (.seq (.reg none [⟨some 2, .mov (.c (.sl true [])), none⟩,
      ⟨some 3, .mov (.c (.i 2)), none⟩] [2, 3])
    (.ret [2, 3]))
  (.skip)))
  (.seq (.reg none [⟨some 7, .load (some 4) (.t 1), none⟩,
    ⟨some 8, .call (.f n_enum_key) [(.t 7)], none⟩,
    ⟨some 2, .mov (.t 8), none⟩,
    ⟨some 3, .mov (.c (.i 0)), none⟩] [2, 3])
  (.ret [2, 3])))),
  [.t 2, .t 3], 0⟩

/-- truss/enum.Before -/
def ir_enum_Before : IF := ⟨2,
  .seq (.reg none [⟨some 2, .box 4 (.t 0), none⟩,
    ⟨some 3, .box 4 (.t 1), none⟩,
    ⟨some 4, .mov (.c (.b false)), none⟩,
    ⟨some 5, .mov (.c (.i 0)), none⟩] [2, 3])
  (.ps [.ownAt 2 3 4, .ownAt 3 3 4] (.seq (.seq (.reg none [⟨some 6, .load (some 4) (.t 2), none⟩,
    ⟨some 7, .call (.f n_enum_isObject) [(.t 6)], none⟩,
    ⟨some 8, .not (.t 7), none⟩,
    ⟨some 9, .mov (.t 8), none⟩,
    ⟨some 10, .load (some 4) (.t 3), some (9, false)⟩,
    ⟨some 11, .call (.f n_enum_isObject) [(.t 10)], some (9, false)⟩,
    ⟨some 12, .not (.t 11), some (9, false)⟩,
    ⟨some 13, .pick (.t 9) (.c (.b true)) (.t 12), none⟩] [2, 3, 13])
  (.cond (.t 13) (.seq (.reg none [⟨some 4, .mov (.c (.b false)), none⟩,
      ⟨some 5, .mov (.c (.i 2)), none⟩] [4, 5])
    (.ret [4, 5]))
  (.skip)))
  (.seq (.reg none [⟨some 14, .load (some 4) (.t 2), none⟩,
    ⟨some 15, .load (some 4) (.t 3), none⟩,
    ⟨some 16, .call (.f n_enum_before) [(.t 14), (.t 15)], none⟩,
    ⟨some 4, .mov (.t 16), none⟩,
    ⟨some 5, .mov (.c (.i 0)), none⟩] [4, 5])
  (.ret [4, 5])))),
  [.t 4, .t 5], 0⟩

/-- truss/trussref21.Object -/
def ir_ref21_Object : IF := ⟨1,
  .seq (.reg none [⟨some 1, .box 4 (.t 0), none⟩,
    ⟨some 2, .mov (.c (.b false)), none⟩] [1])
  (.ps [.ownAt 1 3 4] (.seq (.reg none [⟨some 3, .load (some 4) (.t 1), none⟩,
    ⟨some 4, .call (.f n_ref03_Proper) [(.t 3)], none⟩,
    ⟨some 5, .mov (.t 4), none⟩,
    ⟨some 6, .load (some 4) (.t 1), some (5, true)⟩,
    ⟨some 7, .call (.f n_ref21_object) [(.t 6)], some (5, true)⟩,
    ⟨some 8, .pick (.t 5) (.t 7) (.c (.b false)), none⟩,
    ⟨some 2, .mov (.t 8), none⟩] [2])
  (.ret [2]))),
  [.t 2], 0⟩

def ir_law21_intsL0 : IC :=
  .cut (.seq (.seq (.reg none [⟨some 11, .mov (.t 5), none⟩,
      ⟨some 12, .mov (.t 0), none⟩,
      ⟨some 13, .len false (.t 12), none⟩,
      ⟨some 14, .bin .lss (.t 11) (.t 13), none⟩] [0, 1, 5, 14])
    (.cond (.t 14) (.skip)
    (.exit 0 [])))
    (.seq (.block 1 (.seq (.reg (some [(0, none), (1, none), (2, none), (3, none), (4, none), (5, none), (6, none), (7, none), (8, none)]) [⟨some 17, .mov (.t 0), none⟩,
        ⟨some 18, .mov (.t 5), none⟩,
        ⟨some 19, .iaddr none 1 (.t 17) (.t 18), none⟩,
        ⟨some 20, .load none (.t 19), none⟩,
        ⟨some 21, .mov (.t 1), none⟩,
        ⟨some 22, .mov (.t 5), none⟩,
        ⟨some 23, .iaddr none 1 (.t 21) (.t 22), none⟩,
        ⟨some 24, .load none (.t 23), none⟩,
        ⟨some 25, .bin .neq (.t 20) (.t 24), none⟩] [0, 1, 5, 25])
      (.cond (.t 25) (.seq (.reg none [⟨some 4, .mov (.c (.b false)), none⟩] [4])
        (.ret [4]))
      (.skip))))
    (.reg none [⟨some 15, .mov (.t 5), none⟩,
      ⟨some 16, .bin .add (.t 15) (.c (.i 1)), none⟩,
      ⟨some 5, .mov (.t 16), none⟩] [0, 1, 5]))) [0, 1, 5]
/-- truss/trusslaw21.ints -/
def ir_law21_ints : IF := ⟨2,
  .seq (.reg none [⟨some 4, .mov (.c (.b false)), none⟩] [0, 1])
  (.seq (.seq (.reg none [⟨some 6, .mov (.t 0), none⟩,
    ⟨some 7, .len false (.t 6), none⟩,
    ⟨some 8, .mov (.t 1), none⟩,
    ⟨some 9, .len false (.t 8), none⟩,
    ⟨some 10, .bin .neq (.t 7) (.t 9), none⟩] [0, 1, 10])
  (.cond (.t 10) (.seq (.reg none [⟨some 4, .mov (.c (.b false)), none⟩] [4])
    (.ret [4]))
  (.skip)))
  (.seq (.seq (.reg none [⟨some 5, .mov (.c (.i 0)), none⟩] [0, 1, 5])
  (.block 0 (.loop ir_law21_intsL0)))
  (.seq (.reg none [⟨some 4, .mov (.c (.b true)), none⟩] [4])
  (.ret [4])))),
  [.t 4], 0⟩

def ir_ref21_KeyL0 : IC :=
  .cut (.seq (.seq (.reg none [⟨some 27, .mov (.t 5), none⟩,
      ⟨some 28, .faddr 3 (.t 1), none⟩,
      ⟨some 29, .load none (.t 28), none⟩,
      ⟨some 30, .len false (.t 29), none⟩,
      ⟨some 31, .bin .lss (.t 27) (.t 30), none⟩] [1, 4, 5, 31])
    (.cond (.t 31) (.skip)
    (.exit 1 [4])))
    (.seq (.block 2 (.reg none [⟨some 34, .mov (.t 4), none⟩,
        ⟨some 35, .faddr 3 (.t 1), none⟩,
        ⟨some 36, .load none (.t 35), none⟩,
        ⟨some 37, .mov (.t 5), none⟩,
        ⟨some 38, .iaddr none 4 (.t 36) (.t 37), none⟩,
        ⟨some 39, .load (some 4) (.t 38), none⟩,
        ⟨some 40, .call (.f n_ref21_Key) [(.t 39)], none⟩,
        ⟨some 41, .app 1 (.t 34) (.t 40), none⟩,
        ⟨some 4, .mov (.t 41), none⟩] [1, 4, 5]))
    (.reg none [⟨some 32, .mov (.t 5), none⟩,
      ⟨some 33, .bin .add (.t 32) (.c (.i 1)), none⟩,
      ⟨some 5, .mov (.t 33), none⟩] [1, 4, 5]))) [1, 4, 5]
/-- truss/trussref21.Key -/
def ir_ref21_Key : IF := ⟨1,
  .seq (.reg none [⟨some 1, .box 4 (.t 0), none⟩,
    ⟨some 2, .mov (.c (.sl true [])), none⟩] [1])
  (.ps [.ownAt 1 3 4] (.seq (.reg none [⟨some 3, .mov (.c (.i 0)), none⟩] [1, 3])
  (.seq (.block 0 (.seq (.reg none [⟨some 7, .faddr 0 (.t 1), none⟩,
      ⟨some 8, .load none (.t 7), none⟩,
      ⟨some 9, .bin .eql (.t 8) (.c (.i 4)), none⟩,
      ⟨some 10, .mov (.t 9), none⟩,
      ⟨some 11, .faddr 1 (.t 1), some (10, true)⟩,
      ⟨some 12, .load none (.t 11), some (10, true)⟩,
      ⟨some 13, .bin .eql (.t 12) (.c (.i 1)), some (10, true)⟩,
      ⟨some 14, .pick (.t 10) (.t 13) (.c (.b false)), none⟩,
      ⟨some 6, .mov (.t 14), none⟩] [1, 3, 6])
    (.cond (.t 6) (.reg none [⟨some 15, .faddr 2 (.t 1), none⟩,
        ⟨some 16, .load none (.t 15), none⟩,
        ⟨some 17, .bin .add (.c (.i 1)) (.t 16), none⟩,
        ⟨some 3, .mov (.t 17), none⟩] [1, 3])
    (.seq (.reg none [⟨some 19, .faddr 0 (.t 1), none⟩,
        ⟨some 20, .load none (.t 19), none⟩,
        ⟨some 21, .bin .eql (.t 20) (.c (.i 4)), none⟩,
        ⟨some 18, .mov (.t 21), none⟩] [1, 3, 18])
      (.cond (.t 18) (.reg none [⟨some 22, .faddr 2 (.t 1), none⟩,
          ⟨some 23, .load none (.t 22), none⟩,
          ⟨some 24, .bin .add (.c (.i 1000)) (.t 23), none⟩,
          ⟨some 3, .mov (.t 24), none⟩] [1, 3])
      (.skip))))))
  (.seq (.reg none [⟨some 25, .mov (.t 3), none⟩,
    ⟨some 26, .bslice 1 1 [(.i 0)] [(0, (.t 25))], none⟩,
    ⟨some 4, .mov (.t 26), none⟩] [1, 4])
  (.ps [.own 4 1] (.seq (.seq (.reg none [⟨some 5, .mov (.c (.i 0)), none⟩] [1, 4, 5])
  (.block 1 (.loop ir_ref21_KeyL0)))
  (.seq (.reg none [⟨some 42, .mov (.t 4), none⟩,
    ⟨some 2, .mov (.t 42), none⟩] [2])
  (.ret [2])))))))),
  [.t 2], 0⟩

def ir_ref21_BeforeL0 : IC :=
  .cut (.seq (.seq (.reg none [⟨some 22, .mov (.t 7), none⟩,
      ⟨some 23, .mov (.t 5), none⟩,
      ⟨some 24, .len false (.t 23), none⟩,
      ⟨some 25, .bin .lss (.t 22) (.t 24), none⟩] [5, 6, 7, 25])
    (.cond (.t 25) (.skip)
    (.exit 0 [])))
    (.seq (.block 1 (.seq (.reg (some [(0, none), (1, none), (2, none), (3, none), (4, none), (5, none), (6, none), (7, none), (8, none)]) [⟨some 28, .mov (.t 5), none⟩,
        ⟨some 29, .mov (.t 7), none⟩,
        ⟨some 30, .iaddr none 1 (.t 28) (.t 29), none⟩,
        ⟨some 31, .load none (.t 30), none⟩,
        ⟨some 32, .mov (.t 6), none⟩,
        ⟨some 33, .mov (.t 7), none⟩,
        ⟨some 34, .iaddr none 1 (.t 32) (.t 33), none⟩,
        ⟨some 35, .load none (.t 34), none⟩,
        ⟨some 36, .bin .neq (.t 31) (.t 35), none⟩] [5, 6, 7, 36])
      (.cond (.t 36) (.seq (.reg (some [(0, none), (1, none), (2, none), (3, none), (4, none), (5, none), (6, none), (7, none), (8, none), (9, none)]) [⟨some 37, .mov (.t 5), none⟩,
          ⟨some 38, .mov (.t 7), none⟩,
          ⟨some 39, .iaddr none 1 (.t 37) (.t 38), none⟩,
          ⟨some 40, .load none (.t 39), none⟩,
          ⟨some 41, .mov (.t 6), none⟩,
          ⟨some 42, .mov (.t 7), none⟩,
          ⟨some 43, .iaddr none 1 (.t 41) (.t 42), none⟩,
          ⟨some 44, .load none (.t 43), none⟩,
          ⟨some 45, .bin .lss (.t 40) (.t 44), none⟩,
          ⟨some 4, .mov (.t 45), none⟩] [4])
        (.ret [4]))
      (.skip))))
    (.reg none [⟨some 26, .mov (.t 7), none⟩,
      ⟨some 27, .bin .add (.t 26) (.c (.i 1)), none⟩,
      ⟨some 7, .mov (.t 27), none⟩] [5, 6, 7]))) [5, 6, 7]
/-- truss/trussref21.Before -/
def ir_ref21_Before : IF := ⟨2,
  .seq (.reg none [⟨some 2, .box 4 (.t 0), none⟩,
    ⟨some 3, .box 4 (.t 1), none⟩,
    ⟨some 4, .mov (.c (.b false)), none⟩] [2, 3])
  (.ps [.ownAt 2 3 4, .ownAt 3 3 4] (.seq (.reg (some [(0, none), (1, none), (2, none), (3, none), (4, none), (5, none)]) [⟨some 8, .load (some 4) (.t 2), none⟩,
    ⟨some 9, .callq (.f n_ref21_Key) [(.t 8)], none⟩,
    ⟨some 10, .load (some 4) (.t 3), none⟩,
    ⟨some 11, .call (.f n_ref21_Key) [(.t 10)], none⟩,
    ⟨some 5, .mov (.t 9), none⟩,
    ⟨some 6, .mov (.t 11), none⟩] [5, 6])
  (.seq (.seq (.reg none [⟨some 12, .mov (.t 5), none⟩,
    ⟨some 13, .len false (.t 12), none⟩,
    ⟨some 14, .mov (.t 6), none⟩,
    ⟨some 15, .len false (.t 14), none⟩,
    ⟨some 16, .bin .neq (.t 13) (.t 15), none⟩] [5, 6, 16])
  (.cond (.t 16) (.seq (.reg none [⟨some 17, .mov (.t 5), none⟩,
      ⟨some 18, .len false (.t 17), none⟩,
      ⟨some 19, .mov (.t 6), none⟩,
      ⟨some 20, .len false (.t 19), none⟩,
      ⟨some 21, .bin .lss (.t 18) (.t 20), none⟩,
      ⟨some 4, .mov (.t 21), none⟩] [4])
    (.ret [4]))
  (.skip)))
  (.seq (.seq (.reg none [⟨some 7, .mov (.c (.i 0)), none⟩] [5, 6, 7])
  (.block 0 (.loop ir_ref21_BeforeL0)))
  (.seq (.reg none [⟨some 4, .mov (.c (.b false)), none⟩] [4])
  (.ret [4])))))),
  [.t 4], 0⟩

/-- truss/trussref03.App -/
def ir_ref03_App : IF := ⟨3,
  .seq (.reg none [⟨some 6, .alloc [(.i 0), (.i 0), (.i 0), (.sl true [])], none⟩] [0, 1, 2, 6])
  (.ps [.ownAt 6 3 4] (.seq (.reg none [⟨some 7, .mov (.t 0), none⟩,
    ⟨some 8, .mov (.t 1), none⟩,
    ⟨some 9, .mov (.t 2), none⟩,
    ⟨some 10, .build [(.i 0), (.i 0), (.i 0), (.sl true [])] [(0, 1, (.c (.i 4))), (1, 1, (.t 7)), (2, 1, (.t 8)), (3, 1, (.t 9))], none⟩,
    ⟨none, .store 4 (.t 6) (.t 10), none⟩] [6])
  (.ret [6]))),
  [.cell 6 (some 4)], 0⟩

/-- truss/enum.Terms -/
def ir_enum_Terms : IF := ⟨4,
  .seq (.reg none [⟨some 6, .box 4 (.t 2), none⟩,
    ⟨some 8, .mov (.c (.sl true [])), none⟩,
    ⟨some 9, .mov (.c (.i 0)), none⟩] [0, 1, 3, 6])
  (.ps [.ownAt 6 3 4] (.seq (.reg none [⟨some 13, .mov (.t 0), none⟩,
    ⟨some 14, .mov (.t 1), none⟩,
    ⟨some 15, .load (some 4) (.t 6), none⟩,
    ⟨some 16, .mov (.t 3), none⟩,
    ⟨some 17, .call (.f n_enum_objects) [(.t 13), (.t 14), (.t 15), (.t 16)], none⟩,
    ⟨some 12, .mov (.t 17), none⟩,
    ⟨some 18, .extr 0 (.t 12), none⟩,
    ⟨some 19, .extr 1 (.t 12), none⟩,
    ⟨some 10, .mov (.t 18), none⟩,
    ⟨some 11, .mov (.t 19), none⟩] [10, 11])
  (.seq (.seq (.reg none [⟨some 20, .mov (.t 11), none⟩,
    ⟨some 21, .bin .neq (.t 20) (.c (.i 0)), none⟩] [10, 11, 21])
  (.cond (.t 21) (.seq (.reg none [⟨some 22, .mov (.t 11), none⟩,
      ⟨some 8, .mov (.c (.sl true [])), none⟩,
      ⟨some 9, .mov (.t 22), none⟩] [8, 9])
    (.ret [8, 9]))
  (.skip)))
  (.seq (.reg none [⟨some 23, .mov (.t 10), none⟩,
    ⟨some 24, .call (.f n_slices_Collect_api_Term) [(.t 23)], none⟩,
    ⟨some 8, .mov (.t 24), none⟩,
    ⟨some 9, .mov (.c (.i 0)), none⟩] [8, 9])
  (.ret [8, 9]))))),
  [.t 8, .t 9], 0⟩

/-- truss/trusslaw21.nat -/
def ir_law21_nat : IF := ⟨0,
  .seq (.reg none [⟨some 0, .mov (.c (.sl true [])), none⟩] [])
  (.seq (.reg none [⟨some 2, .call (.f n_ref03_App) [(.c (.i 2)), (.c (.i 0)), (.c (.sl true []))], none⟩,
    ⟨some 1, .alloc [(.i 0), (.i 0), (.i 0), (.sl true [])], none⟩,
    ⟨none, .store 4 (.t 1) (.t 2), none⟩] [1])
  (.ps [.ownAt 1 3 4] (.seq (.reg (some [(0, none), (1, none), (2, none), (3, none), (4, none), (5, none), (6, none), (7, none), (8, none), (9, none)]) [⟨some 3, .build [(.i 0), (.i 0), (.i 0), (.sl true [])] [(0, 1, (.c (.i 1)))], none⟩,
    ⟨some 4, .build [(.s ⟨#[]⟩), (.i 0), (.i 0), (.i 0), (.sl true []), (.i 0)] [(0, 1, (.c (.s ⟨#[110, 97, 116]⟩))), (1, 4, (.t 3))], none⟩,
    ⟨some 5, .load (some 4) (.t 1), none⟩,
    ⟨some 6, .build [(.s ⟨#[]⟩), (.i 0), (.i 0), (.i 0), (.sl true []), (.i 0)] [(0, 1, (.c (.s ⟨#[122]⟩))), (1, 4, (.t 5))], none⟩,
    ⟨some 7, .load (some 4) (.t 1), none⟩,
    ⟨some 8, .load (some 4) (.t 1), none⟩,
    ⟨some 9, .callq (.f n_ref03_Pi) [(.t 7), (.t 8)], none⟩,
    ⟨some 10, .build [(.s ⟨#[]⟩), (.i 0), (.i 0), (.i 0), (.sl true []), (.i 0)] [(0, 1, (.c (.s ⟨#[115]⟩))), (1, 4, (.t 9))], none⟩,
    ⟨some 11, .bslice 6 3 [(.s ⟨#[]⟩), (.i 0), (.i 0), (.i 0), (.sl true []), (.i 0)] [(0, (.t 4)), (1, (.t 6)), (2, (.t 10))], none⟩,
    ⟨some 0, .mov (.t 11), none⟩] [0])
  (.ret [0])))),
  [.t 0], 0⟩

/-- truss/enum.Counts -/
def ir_enum_Counts : IF := ⟨4,
  .seq (.reg none [⟨some 6, .box 4 (.t 2), none⟩,
    ⟨some 8, .mov (.c (.sl true [])), none⟩,
    ⟨some 9, .mov (.c (.i 0)), none⟩] [0, 1, 3, 6])
  (.ps [.ownAt 6 3 4] (.seq (.reg none [⟨some 15, .mov (.t 0), none⟩,
    ⟨some 16, .mov (.t 1), none⟩,
    ⟨some 17, .load (some 4) (.t 6), none⟩,
    ⟨some 18, .mov (.t 3), none⟩,
    ⟨some 19, .call (.f n_enum_objects) [(.t 15), (.t 16), (.t 17), (.t 18)], none⟩,
    ⟨some 14, .mov (.t 19), none⟩,
    ⟨some 20, .extr 0 (.t 14), none⟩,
    ⟨some 21, .extr 1 (.t 14), none⟩,
    ⟨some 10, .mov (.t 20), none⟩,
    ⟨some 11, .mov (.t 21), none⟩] [3, 10, 11])
  (.seq (.seq (.reg none [⟨some 22, .mov (.t 11), none⟩,
    ⟨some 23, .bin .neq (.t 22) (.c (.i 0)), none⟩] [3, 10, 11, 23])
  (.cond (.t 23) (.seq (.reg none [⟨some 24, .mov (.t 11), none⟩,
      ⟨some 8, .mov (.c (.sl true [])), none⟩,
      ⟨some 9, .mov (.t 24), none⟩] [8, 9])
    (.ps [.frz 8, .frz 9] (.ret [8, 9])))
  (.skip)))
  (.seq (.reg none [⟨some 25, .mov (.t 3), none⟩,
    ⟨some 26, .bin .add (.t 25) (.c (.i 1)), none⟩,
    ⟨some 27, .mslice 1 [(.i 0)] (.t 26), none⟩,
    ⟨some 12, .alloc [(.sl true [])], none⟩,
    ⟨none, .store 1 (.t 12) (.t 27), none⟩] [10, 12])
  (.ps [.ownAt 12 0 1] (.seq (.seq (.reg none [⟨some 28, .mov (.t 10), none⟩] [12, 28])
  (.block 0 (.rfunc (.t 28) [29] [12] (.reg none [⟨some 13, .alloc [(.i 0), (.i 0), (.i 0), (.sl true [])], none⟩,
        ⟨none, .store 4 (.t 13) (.t 29), none⟩] [12, 13])
    (.block 1 (.reg (some [(0, none), (1, none), (2, none), (3, none), (4, none), (5, none), (6, none), (7, none)]) [⟨some 30, .load none (.t 12), none⟩,
          ⟨some 31, .load (some 4) (.t 13), none⟩,
          ⟨some 32, .callq (.f n_enum_nodes) [(.t 31)], none⟩,
          ⟨some 33, .iaddr none 1 (.t 30) (.t 32), none⟩,
          ⟨some 34, .load none (.t 33), none⟩,
          ⟨some 35, .bin .add (.t 34) (.c (.i 1)), none⟩,
          ⟨some 36, .iaddr none 1 (.t 30) (.t 32), none⟩,
          ⟨none, .store 1 (.t 36) (.t 35), none⟩] [])))))
  (.seq (.reg none [⟨some 37, .load none (.t 12), none⟩,
    ⟨some 8, .mov (.t 37), none⟩,
    ⟨some 9, .mov (.c (.i 0)), none⟩] [8, 9])
  (.ps [.frz 8, .frz 9] (.ret [8, 9]))))))))),
  [.t 8, .t 9], 0⟩

/-- truss/trussref03.Pi -/
def ir_ref03_Pi : IF := ⟨2,
  .seq (.reg none [⟨some 2, .box 4 (.t 0), none⟩,
    ⟨some 3, .box 4 (.t 1), none⟩,
    ⟨some 4, .alloc [(.i 0), (.i 0), (.i 0), (.sl true [])], none⟩] [2, 3, 4])
  (.ps [.ownAt 2 3 4, .ownAt 3 3 4, .ownAt 4 3 4] (.seq (.reg none [⟨some 5, .load (some 4) (.t 2), none⟩,
    ⟨some 6, .load (some 4) (.t 3), none⟩,
    ⟨some 7, .bslice 4 2 [(.i 0), (.i 0), (.i 0), (.sl true [])] [(0, (.t 5)), (1, (.t 6))], none⟩,
    ⟨some 8, .build [(.i 0), (.i 0), (.i 0), (.sl true [])] [(0, 1, (.c (.i 2))), (3, 1, (.t 7))], none⟩,
    ⟨none, .store 4 (.t 4) (.t 8), none⟩] [4])
  (.ret [4]))),
  [.cell 4 (some 4)], 0⟩

def ir_ref03_SameL0 : IC :=
  .cut (.seq (.seq (.reg none [⟨some 34, .mov (.t 5), none⟩,
      ⟨some 35, .faddr 3 (.t 2), none⟩,
      ⟨some 36, .load none (.t 35), none⟩,
      ⟨some 37, .len false (.t 36), none⟩,
      ⟨some 38, .bin .lss (.t 34) (.t 37), none⟩] [2, 3, 5, 38])
    (.cond (.t 38) (.skip)
    (.exit 0 [])))
    (.seq (.block 1 (.seq (.reg (some [(0, none), (1, none), (2, none), (3, none), (4, none), (5, none), (6, none), (7, none), (8, none), (9, none), (10, none), (11, none)]) [⟨some 41, .faddr 3 (.t 2), none⟩,
        ⟨some 42, .load none (.t 41), none⟩,
        ⟨some 43, .mov (.t 5), none⟩,
        ⟨some 44, .iaddr none 4 (.t 42) (.t 43), none⟩,
        ⟨some 45, .load (some 4) (.t 44), none⟩,
        ⟨some 46, .faddr 3 (.t 3), none⟩,
        ⟨some 47, .load none (.t 46), none⟩,
        ⟨some 48, .mov (.t 5), none⟩,
        ⟨some 49, .iaddr none 4 (.t 47) (.t 48), none⟩,
        ⟨some 50, .load (some 4) (.t 49), none⟩,
        ⟨some 51, .call (.f n_ref03_Same) [(.t 45), (.t 50)], none⟩,
        ⟨some 52, .not (.t 51), none⟩] [2, 3, 5, 52])
      (.cond (.t 52) (.seq (.reg none [⟨some 4, .mov (.c (.b false)), none⟩] [4])
        (.ret [4]))
      (.skip))))
    (.reg none [⟨some 39, .mov (.t 5), none⟩,
      ⟨some 40, .bin .add (.t 39) (.c (.i 1)), none⟩,
      ⟨some 5, .mov (.t 40), none⟩] [2, 3, 5]))) [2, 3, 5]
/-- truss/trussref03.Same -/
def ir_ref03_Same : IF := ⟨2,
  .seq (.reg none [⟨some 2, .box 4 (.t 0), none⟩,
    ⟨some 3, .box 4 (.t 1), none⟩,
    ⟨some 4, .mov (.c (.b false)), none⟩] [2, 3])
  (.ps [.ownAt 2 3 4, .ownAt 3 3 4] (.seq (.seq (.reg none [⟨some 6, .faddr 0 (.t 2), none⟩,
    ⟨some 7, .load none (.t 6), none⟩,
    ⟨some 8, .faddr 0 (.t 3), none⟩,
    ⟨some 9, .load none (.t 8), none⟩,
    ⟨some 10, .bin .neq (.t 7) (.t 9), none⟩,
    ⟨some 11, .mov (.t 10), none⟩,
    ⟨some 12, .faddr 1 (.t 2), some (11, false)⟩,
    ⟨some 13, .load none (.t 12), some (11, false)⟩,
    ⟨some 14, .faddr 1 (.t 3), some (11, false)⟩,
    ⟨some 15, .load none (.t 14), some (11, false)⟩,
    ⟨some 16, .bin .neq (.t 13) (.t 15), some (11, false)⟩,
    ⟨some 17, .pick (.t 11) (.c (.b true)) (.t 16), none⟩,
    ⟨some 18, .mov (.t 17), none⟩,
    ⟨some 19, .faddr 2 (.t 2), some (18, false)⟩,
    ⟨some 20, .load none (.t 19), some (18, false)⟩,
    ⟨some 21, .faddr 2 (.t 3), some (18, false)⟩,
    ⟨some 22, .load none (.t 21), some (18, false)⟩,
    ⟨some 23, .bin .neq (.t 20) (.t 22), some (18, false)⟩,
    ⟨some 24, .pick (.t 18) (.c (.b true)) (.t 23), none⟩,
    ⟨some 25, .mov (.t 24), none⟩,
    ⟨some 26, .faddr 3 (.t 2), some (25, false)⟩,
    ⟨some 27, .load none (.t 26), some (25, false)⟩,
    ⟨some 28, .len false (.t 27), some (25, false)⟩,
    ⟨some 29, .faddr 3 (.t 3), some (25, false)⟩,
    ⟨some 30, .load none (.t 29), some (25, false)⟩,
    ⟨some 31, .len false (.t 30), some (25, false)⟩,
    ⟨some 32, .bin .neq (.t 28) (.t 31), some (25, false)⟩,
    ⟨some 33, .pick (.t 25) (.c (.b true)) (.t 32), none⟩] [2, 3, 33])
  (.cond (.t 33) (.seq (.reg none [⟨some 4, .mov (.c (.b false)), none⟩] [4])
    (.ret [4]))
  (.skip)))
  (.seq (.seq (.reg none [⟨some 5, .mov (.c (.i 0)), none⟩] [2, 3, 5])
  (.block 0 (.loop ir_ref03_SameL0)))
  (.seq (.reg none [⟨some 4, .mov (.c (.b true)), none⟩] [4])
  (.ret [4]))))),
  [.t 4], 0⟩

/-- truss/enum.isObject -/
def ir_enum_isObject : IF := ⟨1,
  .seq (.reg none [⟨some 1, .box 4 (.t 0), none⟩,
    ⟨some 2, .mov (.c (.b false)), none⟩] [1])
  (.ps [.ownAt 1 3 4] (.seq (.seq (.reg none [⟨some 4, .load (some 4) (.t 1), none⟩,
    ⟨some 5, .call (.f n_term_Check) [(.t 4)], none⟩,
    ⟨some 6, .bin .neq (.t 5) (.c (.i 0)), none⟩] [1, 6])
  (.cond (.t 6) (.seq (.reg none [⟨some 2, .mov (.c (.b false)), none⟩] [2])
    (.ret [2]))
  (.skip)))
  (.seq (.reg none [⟨some 3, .alloc [(.k .nilFunc)], none⟩] [1, 3])
  (.seq (.reg none [⟨some 7, .mfunc (.func n_enum_isObject_1) [(.t 3)], none⟩,
    ⟨none, .store 1 (.t 3) (.t 7), none⟩] [1, 3])
  (.seq (.reg none [⟨some 8, .load none (.t 3), none⟩,
    ⟨some 9, .load (some 4) (.t 1), none⟩,
    ⟨some 10, .call (.v (.t 8)) [(.t 9)], none⟩,
    ⟨some 2, .mov (.t 10), none⟩] [2])
  (.ret [2])))))),
  [.t 2], 0⟩

def ir_enum_keyL0 : IC :=
  .cut (.seq (.reg none [⟨some 34, .bin .lss (.t 33) (.t 32), none⟩] [3, 31, 32, 33, 34])
    (.seq (.cond (.t 34) (.skip)
    (.exit 1 [3]))
    (.seq (.block 2 (.seq (.reg none [⟨some 35, .iaddr none 4 (.t 31) (.t 33), none⟩,
        ⟨some 36, .load (some 4) (.t 35), none⟩,
        ⟨some 5, .alloc [(.i 0), (.i 0), (.i 0), (.sl true [])], none⟩,
        ⟨none, .store 4 (.t 5) (.t 36), none⟩] [3, 5, 31, 32, 33])
      (.ps [.ownAt 5 3 4] (.reg none [⟨some 37, .mov (.t 3), none⟩,
        ⟨some 38, .load (some 4) (.t 5), none⟩,
        ⟨some 39, .call (.f n_enum_key) [(.t 38)], none⟩,
        ⟨some 40, .app 1 (.t 37) (.t 39), none⟩,
        ⟨some 3, .mov (.t 40), none⟩] [3, 31, 32, 33]))))
    (.reg none [⟨some 41, .bin .add (.t 33) (.c (.i 1)), none⟩,
      ⟨some 33, .mov (.t 41), none⟩] [3, 31, 32, 33])))) [3, 31, 32, 33]
/-- truss/enum.key -/
def ir_enum_key : IF := ⟨1,
  .seq (.reg none [⟨some 1, .box 4 (.t 0), none⟩,
    ⟨some 2, .mov (.c (.sl true [])), none⟩] [1])
  (.ps [.ownAt 1 3 4] (.seq (.reg none [⟨some 6, .bslm 1 1 [(.i 0)] [(0, (.c (.i 0)))], none⟩,
    ⟨some 3, .mov (.t 6), none⟩] [1, 3])
  (.seq (.block 0 (.seq (.reg none [⟨some 8, .faddr 0 (.t 1), none⟩,
      ⟨some 9, .load none (.t 8), none⟩,
      ⟨some 10, .bin .eql (.t 9) (.c (.i 4)), none⟩,
      ⟨some 11, .mov (.t 10), none⟩,
      ⟨some 12, .faddr 1 (.t 1), some (11, true)⟩,
      ⟨some 13, .load none (.t 12), some (11, true)⟩,
      ⟨some 14, .bin .eql (.t 13) (.c (.i 1)), some (11, true)⟩,
      ⟨some 15, .pick (.t 11) (.t 14) (.c (.b false)), none⟩,
      ⟨some 7, .mov (.t 15), none⟩] [1, 3, 7])
    (.cond (.t 7) (.reg none [⟨some 16, .mov (.t 3), none⟩,
        ⟨some 17, .faddr 2 (.t 1), none⟩,
        ⟨some 18, .load none (.t 17), none⟩,
        ⟨some 19, .bin .add (.c (.i 1)) (.t 18), none⟩,
        ⟨some 20, .iaddr none 1 (.t 16) (.c (.i 0)), none⟩,
        ⟨none, .store 1 (.t 20) (.t 19), none⟩] [1, 3])
    (.seq (.reg none [⟨some 22, .faddr 0 (.t 1), none⟩,
        ⟨some 23, .load none (.t 22), none⟩,
        ⟨some 24, .bin .eql (.t 23) (.c (.i 4)), none⟩,
        ⟨some 21, .mov (.t 24), none⟩] [1, 3, 21])
      (.cond (.t 21) (.reg none [⟨some 25, .mov (.t 3), none⟩,
          ⟨some 26, .faddr 2 (.t 1), none⟩,
          ⟨some 27, .load none (.t 26), none⟩,
          ⟨some 28, .bin .add (.c (.i 1000)) (.t 27), none⟩,
          ⟨some 29, .iaddr none 1 (.t 25) (.c (.i 0)), none⟩,
          ⟨none, .store 1 (.t 29) (.t 28), none⟩] [1, 3])
      (.skip))))))
  (.seq (.seq (.reg none [⟨some 30, .faddr 3 (.t 1), none⟩,
    ⟨some 31, .load none (.t 30), none⟩,
    ⟨some 32, .len false (.t 31), none⟩,
    ⟨some 33, .mov (.c (.i 0)), none⟩] [3, 31, 32, 33])
  (.block 1 (.loop ir_enum_keyL0)))
  (.seq (.reg none [⟨some 42, .mov (.t 3), none⟩,
    ⟨some 2, .mov (.t 42), none⟩] [2])
  (.ps [.frz 2] (.ret [2]))))))),
  [.t 2], 0⟩

/-- truss/enum.before -/
def ir_enum_before : IF := ⟨2,
  .seq (.reg none [⟨some 2, .box 4 (.t 0), none⟩,
    ⟨some 3, .box 4 (.t 1), none⟩,
    ⟨some 4, .mov (.c (.b false)), none⟩] [2, 3])
  (.ps [.ownAt 2 3 4, .ownAt 3 3 4] (.seq (.reg (some [(0, none), (1, none), (2, none), (3, none), (4, none), (5, none)]) [⟨some 7, .load (some 4) (.t 2), none⟩,
    ⟨some 8, .callq (.f n_enum_nodes) [(.t 7)], none⟩,
    ⟨some 9, .load (some 4) (.t 3), none⟩,
    ⟨some 10, .call (.f n_enum_nodes) [(.t 9)], none⟩,
    ⟨some 5, .mov (.t 8), none⟩,
    ⟨some 6, .mov (.t 10), none⟩] [2, 3, 5, 6])
  (.seq (.reg (some [(0, none), (1, none), (2, none), (3, none), (4, none), (5, none), (6, none), (7, none), (8, none), (9, none), (10, none), (11, none), (12, none), (13, none), (14, none), (15, none), (16, none)]) [⟨some 11, .mov (.t 5), none⟩,
    ⟨some 12, .mov (.t 6), none⟩,
    ⟨some 13, .bin .lss (.t 11) (.t 12), none⟩,
    ⟨some 14, .mov (.t 13), none⟩,
    ⟨some 15, .mov (.t 5), some (14, false)⟩,
    ⟨some 16, .mov (.t 6), some (14, false)⟩,
    ⟨some 17, .bin .eql (.t 15) (.t 16), some (14, false)⟩,
    ⟨some 18, .mov (.t 17), some (14, false)⟩,
    ⟨some 19, .load (some 4) (.t 2), some (18, true)⟩,
    ⟨some 20, .callq (.f n_enum_key) [(.t 19)], some (18, true)⟩,
    ⟨some 21, .load (some 4) (.t 3), some (18, true)⟩,
    ⟨some 22, .call (.f n_enum_key) [(.t 21)], some (18, true)⟩,
    ⟨some 23, .call (.f n_slices_Compare_of_int_int) [(.t 20), (.t 22)], some (18, true)⟩,
    ⟨some 24, .bin .lss (.t 23) (.c (.i 0)), some (18, true)⟩,
    ⟨some 25, .pick (.t 18) (.t 24) (.c (.b false)), some (14, false)⟩,
    ⟨some 26, .pick (.t 14) (.c (.b true)) (.t 25), none⟩,
    ⟨some 4, .mov (.t 26), none⟩] [4])
  (.ret [4])))),
  [.t 4], 0⟩

/-- truss/trussref03.Proper -/
def ir_ref03_Proper : IF := ⟨1,
  .seq (.reg none [⟨some 1, .box 4 (.t 0), none⟩,
    ⟨some 2, .mov (.c (.b false)), none⟩] [1])
  (.ps [.ownAt 1 3 4] (.seq (.reg none [⟨some 3, .load (some 4) (.t 1), none⟩,
    ⟨some 4, .call (.f n_ref03_nodes) [(.t 3), (.c (.i 600))], none⟩,
    ⟨some 5, .bin .leq (.t 4) (.c (.i 600)), none⟩,
    ⟨some 6, .mov (.t 5), none⟩,
    ⟨some 7, .load (some 4) (.t 1), some (6, true)⟩,
    ⟨some 8, .call (.f n_ref03_formed) [(.t 7), (.c (.i 1))], some (6, true)⟩,
    ⟨some 9, .pick (.t 6) (.t 8) (.c (.b false)), none⟩,
    ⟨some 2, .mov (.t 9), none⟩] [2])
  (.ret [2]))),
  [.t 2], 0⟩

def ir_ref21_objectL0 : IC :=
  .cut (.seq (.seq (.reg none [⟨some 17, .mov (.t 3), none⟩,
      ⟨some 18, .faddr 3 (.t 1), none⟩,
      ⟨some 19, .load none (.t 18), none⟩,
      ⟨some 20, .len false (.t 19), none⟩,
      ⟨some 21, .bin .lss (.t 17) (.t 20), none⟩] [1, 3, 21])
    (.cond (.t 21) (.skip)
    (.exit 0 [])))
    (.seq (.block 1 (.seq (.reg none [⟨some 24, .faddr 3 (.t 1), none⟩,
        ⟨some 25, .load none (.t 24), none⟩,
        ⟨some 26, .mov (.t 3), none⟩,
        ⟨some 27, .iaddr none 4 (.t 25) (.t 26), none⟩,
        ⟨some 28, .load (some 4) (.t 27), none⟩,
        ⟨some 29, .call (.f n_ref21_object) [(.t 28)], none⟩,
        ⟨some 30, .not (.t 29), none⟩] [1, 3, 30])
      (.cond (.t 30) (.seq (.reg none [⟨some 2, .mov (.c (.b false)), none⟩] [2])
        (.ret [2]))
      (.skip))))
    (.reg none [⟨some 22, .mov (.t 3), none⟩,
      ⟨some 23, .bin .add (.t 22) (.c (.i 1)), none⟩,
      ⟨some 3, .mov (.t 23), none⟩] [1, 3]))) [1, 3]
/-- truss/trussref21.object -/
def ir_ref21_object : IF := ⟨1,
  .seq (.reg none [⟨some 1, .box 4 (.t 0), none⟩,
    ⟨some 2, .mov (.c (.b false)), none⟩] [1])
  (.ps [.ownAt 1 3 4] (.seq (.seq (.reg none [⟨some 4, .faddr 0 (.t 1), none⟩,
    ⟨some 5, .load none (.t 4), none⟩,
    ⟨some 6, .bin .neq (.t 5) (.c (.i 3)), none⟩,
    ⟨some 7, .mov (.t 6), none⟩,
    ⟨some 8, .faddr 0 (.t 1), some (7, true)⟩,
    ⟨some 9, .load none (.t 8), some (7, true)⟩,
    ⟨some 10, .bin .neq (.t 9) (.c (.i 4)), some (7, true)⟩,
    ⟨some 11, .mov (.t 10), some (7, true)⟩,
    ⟨some 12, .faddr 1 (.t 1), some (11, false)⟩,
    ⟨some 13, .load none (.t 12), some (11, false)⟩,
    ⟨some 14, .bin .eql (.t 13) (.c (.i 3)), some (11, false)⟩,
    ⟨some 15, .pick (.t 11) (.c (.b true)) (.t 14), some (7, true)⟩,
    ⟨some 16, .pick (.t 7) (.t 15) (.c (.b false)), none⟩] [1, 16])
  (.cond (.t 16) (.seq (.reg none [⟨some 2, .mov (.c (.b false)), none⟩] [2])
    (.ret [2]))
  (.skip)))
  (.seq (.seq (.reg none [⟨some 3, .mov (.c (.i 0)), none⟩] [1, 3])
  (.block 0 (.loop ir_ref21_objectL0)))
  (.seq (.reg none [⟨some 2, .mov (.c (.b true)), none⟩] [2])
  (.ret [2]))))),
  [.t 2], 0⟩

/-- truss/term.Same -/
def ir_term_Same : IF := ⟨2,
  .seq (.reg none [⟨some 2, .box 4 (.t 0), none⟩,
    ⟨some 3, .box 4 (.t 1), none⟩,
    ⟨some 4, .mov (.c (.b false)), none⟩] [2, 3])
  (.ps [.ownAt 2 3 4, .ownAt 3 3 4] (.seq (.reg none [⟨some 5, .faddr 0 (.t 2), none⟩,
    ⟨some 6, .load none (.t 5), none⟩,
    ⟨some 7, .faddr 0 (.t 3), none⟩,
    ⟨some 8, .load none (.t 7), none⟩,
    ⟨some 9, .bin .eql (.t 6) (.t 8), none⟩,
    ⟨some 10, .mov (.t 9), none⟩,
    ⟨some 11, .faddr 1 (.t 2), some (10, true)⟩,
    ⟨some 12, .load none (.t 11), some (10, true)⟩,
    ⟨some 13, .faddr 1 (.t 3), some (10, true)⟩,
    ⟨some 14, .load none (.t 13), some (10, true)⟩,
    ⟨some 15, .bin .eql (.t 12) (.t 14), some (10, true)⟩,
    ⟨some 16, .pick (.t 10) (.t 15) (.c (.b false)), none⟩,
    ⟨some 17, .mov (.t 16), none⟩,
    ⟨some 18, .faddr 2 (.t 2), some (17, true)⟩,
    ⟨some 19, .load none (.t 18), some (17, true)⟩,
    ⟨some 20, .faddr 2 (.t 3), some (17, true)⟩,
    ⟨some 21, .load none (.t 20), some (17, true)⟩,
    ⟨some 22, .bin .eql (.t 19) (.t 21), some (17, true)⟩,
    ⟨some 23, .pick (.t 17) (.t 22) (.c (.b false)), none⟩,
    ⟨some 24, .mov (.t 23), none⟩,
    ⟨some 25, .faddr 3 (.t 2), some (24, true)⟩,
    ⟨some 26, .load none (.t 25), some (24, true)⟩,
    ⟨some 27, .faddr 3 (.t 3), some (24, true)⟩,
    ⟨some 28, .load none (.t 27), some (24, true)⟩,
    ⟨some 29, .call (.f n_slices_EqualFunc_of_Term_api_Term_api_Term_api_Term) [(.t 26), (.t 28), (.c (.fn (.func n_term_Same) []))], some (24, true)⟩,
    ⟨some 30, .pick (.t 24) (.t 29) (.c (.b false)), none⟩,
    ⟨some 4, .mov (.t 30), none⟩] [4])
  (.ret [4]))),
  [.t 4], 0⟩

/-- truss/enum.objects -/
def ir_enum_objects : IF := ⟨4,
  .seq (.reg none [⟨some 4, .box 1 (.t 0), none⟩,
    ⟨some 5, .box 1 (.t 1), none⟩,
    ⟨some 6, .box 4 (.t 2), none⟩,
    ⟨some 7, .box 1 (.t 3), none⟩,
    ⟨some 8, .mov (.c (.k .nilFunc)), none⟩,
    ⟨some 9, .mov (.c (.i 0)), none⟩] [4, 5, 6, 7])
  (.ps [.ownAt 4 0 6, .ownAt 5 0 4, .ownAt 6 3 4] (.seq (.reg none [⟨some 15, .load none (.t 4), none⟩,
    ⟨some 16, .load none (.t 5), none⟩,
    ⟨some 17, .load (some 4) (.t 6), none⟩,
    ⟨some 18, .load none (.t 7), none⟩,
    ⟨some 19, .call (.f n_enum_newLister) [(.t 15), (.t 16), (.t 17), (.t 18)], none⟩,
    ⟨some 14, .mov (.t 19), none⟩,
    ⟨some 20, .extr 0 (.t 14), none⟩,
    ⟨some 21, .extr 1 (.t 14), none⟩,
    ⟨some 22, .extr 2 (.t 14), none⟩,
    ⟨some 23, .extr 3 (.t 14), none⟩,
    ⟨some 10, .alloc [(.k (.pointer none))], none⟩,
    ⟨some 11, .alloc [(.sl true [])], none⟩,
    ⟨some 12, .alloc [(.sl true []), (.i 0)], none⟩,
    ⟨none, .store 1 (.t 10) (.t 20), none⟩,
    ⟨none, .store 1 (.t 11) (.t 21), none⟩,
    ⟨none, .store 2 (.t 12) (.t 22), none⟩,
    ⟨some 13, .mov (.t 23), none⟩] [4, 5, 6, 7, 10, 11, 12, 13])
  (.ps [.ownAt 11 0 2, .ownAt 12 0 2] (.seq (.seq (.reg none [⟨some 24, .mov (.t 13), none⟩,
    ⟨some 25, .bin .neq (.t 24) (.c (.i 0)), none⟩] [4, 5, 6, 7, 10, 11, 12, 13, 25])
  (.cond (.t 25) (.seq (.reg none [⟨some 26, .mov (.t 13), none⟩,
      ⟨some 8, .mov (.c (.k .nilFunc)), none⟩,
      ⟨some 9, .mov (.t 26), none⟩] [8, 9])
    (.ret [8, 9]))
  (.skip)))
  (.seq (.reg none [⟨some 27, .mfunc (.func n_enum_objects_1) [(.t 7), (.t 10), (.t 11), (.t 12), (.t 4), (.t 5), (.t 6)], none⟩,
    ⟨some 8, .mov (.t 27), none⟩,
    ⟨some 9, .mov (.c (.i 0)), none⟩] [8, 9])
  (.ret [8, 9])))))),
  [.t 8, .t 9], 4⟩

/-- slices.Collect[truss/api.Term] -/
def ir_slices_Collect_api_Term : IF := ⟨1,
  .seq (.reg none [⟨some 2, .mov (.c (.sl true [])), none⟩] [0])
  (.seq (.reg none [⟨some 3, .mov (.t 0), none⟩,
    ⟨some 4, .call (.f n_slices_AppendSeq_of_Term_api_Term) [(.c (.sl true [])), (.t 3)], none⟩,
    ⟨some 2, .mov (.t 4), none⟩] [2])
  (.ret [2])),
  [.t 2], 0⟩

def ir_enum_nodesL0 : IC :=
  .cut (.seq (.reg none [⟨some 10, .bin .lss (.t 9) (.t 8), none⟩] [3, 7, 8, 9, 10])
    (.seq (.cond (.t 10) (.skip)
    (.exit 0 [3]))
    (.seq (.block 1 (.seq (.reg none [⟨some 11, .iaddr none 4 (.t 7) (.t 9), none⟩,
        ⟨some 12, .load (some 4) (.t 11), none⟩,
        ⟨some 5, .alloc [(.i 0), (.i 0), (.i 0), (.sl true [])], none⟩,
        ⟨none, .store 4 (.t 5) (.t 12), none⟩] [3, 5, 7, 8, 9])
      (.ps [.ownAt 5 3 4] (.reg none [⟨some 13, .mov (.t 3), none⟩,
        ⟨some 14, .load (some 4) (.t 5), none⟩,
        ⟨some 15, .call (.f n_enum_nodes) [(.t 14)], none⟩,
        ⟨some 16, .bin .add (.t 13) (.t 15), none⟩,
        ⟨some 3, .mov (.t 16), none⟩] [3, 7, 8, 9]))))
    (.reg none [⟨some 17, .bin .add (.t 9) (.c (.i 1)), none⟩,
      ⟨some 9, .mov (.t 17), none⟩] [3, 7, 8, 9])))) [3, 7, 8, 9]
/-- truss/enum.nodes -/
def ir_enum_nodes : IF := ⟨1,
  .seq (.reg none [⟨some 1, .box 4 (.t 0), none⟩,
    ⟨some 2, .mov (.c (.i 0)), none⟩] [1])
  (.ps [.ownAt 1 3 4] (.seq (.reg none [⟨some 3, .mov (.c (.i 1)), none⟩] [1, 3])
  (.seq (.seq (.reg none [⟨some 6, .faddr 3 (.t 1), none⟩,
    ⟨some 7, .load none (.t 6), none⟩,
    ⟨some 8, .len false (.t 7), none⟩,
    ⟨some 9, .mov (.c (.i 0)), none⟩] [3, 7, 8, 9])
  (.block 0 (.loop ir_enum_nodesL0)))
  (.seq (.reg none [⟨some 18, .mov (.t 3), none⟩,
    ⟨some 2, .mov (.t 18), none⟩] [2])
  (.ret [2]))))),
  [.t 2], 0⟩

/-- truss/term.Check -/
def ir_term_Check : IF := ⟨1,
  .seq (.reg none [⟨some 1, .box 4 (.t 0), none⟩,
    ⟨some 2, .mov (.c (.i 0)), none⟩] [1])
  (.ps [.ownAt 1 3 4] (.seq (.reg none [⟨some 3, .alloc [(.i 0)], none⟩,
    ⟨none, .store 1 (.t 3) (.c (.i 0)), none⟩] [1, 3])
  (.seq (.seq (.reg none [⟨some 4, .load (some 4) (.t 1), none⟩,
    ⟨some 5, .call (.f n_term_proper) [(.t 4), (.c (.i 1)), (.t 3)], none⟩,
    ⟨some 6, .not (.t 5), none⟩] [6])
  (.cond (.t 6) (.seq (.reg none [⟨some 2, .mov (.c (.i 2)), none⟩] [2])
    (.ret [2]))
  (.skip)))
  (.seq (.reg none [⟨some 2, .mov (.c (.i 0)), none⟩] [2])
  (.ret [2]))))),
  [.t 2], 0⟩

/-- truss/enum.isObject$1 -/
def ir_enum_isObject_1 : IF := ⟨2,
  .seq (.reg none [⟨some 2, .box 4 (.t 0), none⟩,
    ⟨some 3, .mov (.c (.b false)), none⟩] [1, 2])
  (.ps [.ownAt 2 3 4] (.seq (.reg none [⟨some 4, .faddr 0 (.t 2), none⟩,
    ⟨some 5, .load none (.t 4), none⟩,
    ⟨some 6, .bin .eql (.t 5) (.c (.i 3)), none⟩,
    ⟨some 7, .mov (.t 6), none⟩,
    ⟨some 8, .faddr 0 (.t 2), some (7, false)⟩,
    ⟨some 9, .load none (.t 8), some (7, false)⟩,
    ⟨some 10, .bin .eql (.t 9) (.c (.i 4)), some (7, false)⟩,
    ⟨some 11, .mov (.t 10), some (7, false)⟩,
    ⟨some 12, .faddr 1 (.t 2), some (11, true)⟩,
    ⟨some 13, .load none (.t 12), some (11, true)⟩,
    ⟨some 14, .bin .neq (.t 13) (.c (.i 3)), some (11, true)⟩,
    ⟨some 15, .pick (.t 11) (.t 14) (.c (.b false)), some (7, false)⟩,
    ⟨some 16, .pick (.t 7) (.c (.b true)) (.t 15), none⟩,
    ⟨some 17, .mov (.t 16), none⟩,
    ⟨some 18, .faddr 3 (.t 2), some (17, true)⟩,
    ⟨some 19, .load none (.t 18), some (17, true)⟩,
    ⟨some 20, .mfunc (.func n_enum_isObject_1_1) [(.t 1)], some (17, true)⟩,
    ⟨some 21, .call (.f n_slices_ContainsFunc_of_Term_api_Term) [(.t 19), (.t 20)], some (17, true)⟩,
    ⟨some 22, .not (.t 21), some (17, true)⟩,
    ⟨some 23, .pick (.t 17) (.t 22) (.c (.b false)), none⟩,
    ⟨some 3, .mov (.t 23), none⟩] [3])
  (.ret [3]))),
  [.t 3], 0⟩

/-- slices.ContainsFunc[[]truss/api.Term,truss/api.Term] -/
def ir_slices_ContainsFunc_of_Term_api_Term : IF := ⟨2,
  .seq (.reg none [⟨some 4, .mov (.c (.b false)), none⟩] [0, 1])
  (.seq (.reg none [⟨some 5, .mov (.t 0), none⟩,
    ⟨some 6, .mov (.t 1), none⟩,
    ⟨some 7, .call (.f n_slices_IndexFunc_of_Term_api_Term) [(.t 5), (.t 6)], none⟩,
    ⟨some 8, .bin .geq (.t 7) (.c (.i 0)), none⟩,
    ⟨some 4, .mov (.t 8), none⟩] [4])
  (.ret [4])),
  [.t 4], 0⟩

/-- truss/enum.isObject$1$1 -/
def ir_enum_isObject_1_1 : IF := ⟨2,
  .seq (.reg none [⟨some 2, .box 4 (.t 0), none⟩,
    ⟨some 3, .mov (.c (.b false)), none⟩] [1, 2])
  (.ps [.ownAt 2 3 4] (.seq (.reg none [⟨some 4, .load none (.t 1), none⟩,
    ⟨some 5, .load (some 4) (.t 2), none⟩,
    ⟨some 6, .call (.v (.t 4)) [(.t 5)], none⟩,
    ⟨some 7, .not (.t 6), none⟩,
    ⟨some 3, .mov (.t 7), none⟩] [3])
  (.ret [3]))),
  [.t 3], 0⟩

def ir_slices_Compare_of_int_intL0 : IC :=
  .cut (.seq (.reg none [⟨some 12, .bin .lss (.t 11) (.t 10), none⟩] [0, 1, 9, 10, 11, 12])
    (.seq (.cond (.t 12) (.skip)
    (.exit 0 [0, 1]))
    (.seq (.block 1 (.seq (.reg none [⟨some 13, .mov (.t 11), none⟩,
        ⟨some 14, .iaddr none 1 (.t 9) (.t 11), none⟩,
        ⟨some 15, .load none (.t 14), none⟩,
        ⟨some 5, .mov (.t 13), none⟩,
        ⟨some 6, .mov (.t 15), none⟩] [0, 1, 5, 6, 9, 10, 11])
      (.seq (.seq (.reg none [⟨some 16, .mov (.t 5), none⟩,
        ⟨some 17, .mov (.t 1), none⟩,
        ⟨some 18, .len false (.t 17), none⟩,
        ⟨some 19, .bin .geq (.t 16) (.t 18), none⟩] [0, 1, 5, 6, 9, 10, 11, 19])
      (.cond (.t 19) (.seq (.reg none [⟨some 4, .mov (.c (.i 1)), none⟩] [4])
        (.ret [4]))
      (.skip)))
      (.seq (.reg none [⟨some 20, .mov (.t 1), none⟩,
        ⟨some 21, .mov (.t 5), none⟩,
        ⟨some 22, .iaddr none 1 (.t 20) (.t 21), none⟩,
        ⟨some 23, .load none (.t 22), none⟩,
        ⟨some 7, .mov (.t 23), none⟩] [0, 1, 6, 7, 9, 10, 11])
      (.seq (.reg none [⟨some 24, .mov (.t 6), none⟩,
        ⟨some 25, .mov (.t 7), none⟩,
        ⟨some 26, .call (.f n_cmp_Compare_int) [(.t 24), (.t 25)], none⟩,
        ⟨some 8, .mov (.t 26), none⟩] [0, 1, 8, 9, 10, 11])
      (.seq (.reg none [⟨some 27, .mov (.t 8), none⟩,
        ⟨some 28, .bin .neq (.t 27) (.c (.i 0)), none⟩] [0, 1, 8, 9, 10, 11, 28])
      (.cond (.t 28) (.seq (.reg none [⟨some 29, .mov (.t 8), none⟩,
          ⟨some 4, .mov (.t 29), none⟩] [4])
        (.ret [4]))
      (.skip))))))))
    (.reg none [⟨some 30, .bin .add (.t 11) (.c (.i 1)), none⟩,
      ⟨some 11, .mov (.t 30), none⟩] [0, 1, 9, 10, 11])))) [0, 1, 9, 10, 11]
/-- slices.Compare[[]int,int] -/
def ir_slices_Compare_of_int_int : IF := ⟨2,
  .seq (.reg none [⟨some 4, .mov (.c (.i 0)), none⟩] [0, 1])
  (.seq (.seq (.reg none [⟨some 9, .mov (.t 0), none⟩,
    ⟨some 10, .len false (.t 9), none⟩,
    ⟨some 11, .mov (.c (.i 0)), none⟩] [0, 1, 9, 10, 11])
  (.block 0 (.loop ir_slices_Compare_of_int_intL0)))
  (.seq (.seq (.reg none [⟨some 31, .mov (.t 0), none⟩,
    ⟨some 32, .len false (.t 31), none⟩,
    ⟨some 33, .mov (.t 1), none⟩,
    ⟨some 34, .len false (.t 33), none⟩,
    ⟨some 35, .bin .lss (.t 32) (.t 34), none⟩] [35])
  (.cond (.t 35) (.seq (.reg none [⟨some 4, .mov (.c (.i (-1))), none⟩] [4])
    (.ret [4]))
  (.skip)))
  (.seq (.reg none [⟨some 4, .mov (.c (.i 0)), none⟩] [4])
  (.ret [4])))),
  [.t 4], 0⟩

def ir_ref03_nodesL0 : IC :=
  .cut (.seq (.seq (.reg none [⟨some 7, .mov (.t 6), none⟩,
      ⟨some 8, .faddr 3 (.t 2), none⟩,
      ⟨some 9, .load none (.t 8), none⟩,
      ⟨some 10, .len false (.t 9), none⟩,
      ⟨some 11, .bin .lss (.t 7) (.t 10), none⟩,
      ⟨some 12, .mov (.t 11), none⟩,
      ⟨some 13, .mov (.t 5), some (12, true)⟩,
      ⟨some 14, .mov (.t 1), some (12, true)⟩,
      ⟨some 15, .bin .leq (.t 13) (.t 14), some (12, true)⟩,
      ⟨some 16, .pick (.t 12) (.t 15) (.c (.b false)), none⟩] [1, 2, 5, 6, 16])
    (.cond (.t 16) (.skip)
    (.exit 0 [1, 5])))
    (.seq (.block 1 (.reg none [⟨some 19, .mov (.t 5), none⟩,
        ⟨some 20, .faddr 3 (.t 2), none⟩,
        ⟨some 21, .load none (.t 20), none⟩,
        ⟨some 22, .mov (.t 6), none⟩,
        ⟨some 23, .iaddr none 4 (.t 21) (.t 22), none⟩,
        ⟨some 24, .load (some 4) (.t 23), none⟩,
        ⟨some 25, .mov (.t 1), none⟩,
        ⟨some 26, .mov (.t 5), none⟩,
        ⟨some 27, .bin .sub (.t 25) (.t 26), none⟩,
        ⟨some 28, .call (.f n_ref03_nodes) [(.t 24), (.t 27)], none⟩,
        ⟨some 29, .bin .add (.t 19) (.t 28), none⟩,
        ⟨some 5, .mov (.t 29), none⟩] [1, 2, 5, 6]))
    (.reg none [⟨some 17, .mov (.t 6), none⟩,
      ⟨some 18, .bin .add (.t 17) (.c (.i 1)), none⟩,
      ⟨some 6, .mov (.t 18), none⟩] [1, 2, 5, 6]))) [1, 2, 5, 6]
/-- truss/trussref03.nodes -/
def ir_ref03_nodes : IF := ⟨2,
  .seq (.reg none [⟨some 2, .box 4 (.t 0), none⟩,
    ⟨some 4, .mov (.c (.i 0)), none⟩] [1, 2])
  (.ps [.ownAt 2 3 4] (.seq (.reg none [⟨some 5, .mov (.c (.i 1)), none⟩] [1, 2, 5])
  (.seq (.seq (.reg none [⟨some 6, .mov (.c (.i 0)), none⟩] [1, 2, 5, 6])
  (.block 0 (.loop ir_ref03_nodesL0)))
  (.seq (.reg none [⟨some 30, .mov (.t 5), none⟩,
    ⟨some 31, .mov (.t 1), none⟩,
    ⟨some 32, .bin .add (.t 31) (.c (.i 1)), none⟩,
    ⟨some 33, .mm false (.t 30) (.t 32), none⟩,
    ⟨some 4, .mov (.t 33), none⟩] [4])
  (.ret [4]))))),
  [.t 4], 0⟩

def ir_ref03_formedL0 : IC :=
  .cut (.seq (.seq (.reg none [⟨some 78, .mov (.t 5), none⟩,
      ⟨some 79, .faddr 3 (.t 2), none⟩,
      ⟨some 80, .load none (.t 79), none⟩,
      ⟨some 81, .len false (.t 80), none⟩,
      ⟨some 82, .bin .lss (.t 78) (.t 81), none⟩] [1, 2, 5, 82])
    (.cond (.t 82) (.skip)
    (.exit 1 [])))
    (.seq (.block 2 (.seq (.reg none [⟨some 85, .faddr 3 (.t 2), none⟩,
        ⟨some 86, .load none (.t 85), none⟩,
        ⟨some 87, .mov (.t 5), none⟩,
        ⟨some 88, .iaddr none 4 (.t 86) (.t 87), none⟩,
        ⟨some 89, .load (some 4) (.t 88), none⟩,
        ⟨some 90, .mov (.t 1), none⟩,
        ⟨some 91, .bin .add (.t 90) (.c (.i 1)), none⟩,
        ⟨some 92, .call (.f n_ref03_formed) [(.t 89), (.t 91)], none⟩,
        ⟨some 93, .not (.t 92), none⟩] [1, 2, 5, 93])
      (.cond (.t 93) (.seq (.reg none [⟨some 4, .mov (.c (.b false)), none⟩] [4])
        (.ret [4]))
      (.skip))))
    (.reg none [⟨some 83, .mov (.t 5), none⟩,
      ⟨some 84, .bin .add (.t 83) (.c (.i 1)), none⟩,
      ⟨some 5, .mov (.t 84), none⟩] [1, 2, 5]))) [1, 2, 5]
/-- truss/trussref03.formed -/
def ir_ref03_formed : IF := ⟨2,
  .seq (.reg none [⟨some 2, .box 4 (.t 0), none⟩,
    ⟨some 4, .mov (.c (.b false)), none⟩] [1, 2])
  (.ps [.ownAt 2 3 4] (.seq (.seq (.reg none [⟨some 6, .mov (.t 1), none⟩,
    ⟨some 7, .bin .gtr (.t 6) (.c (.i 40)), none⟩] [1, 2, 7])
  (.cond (.t 7) (.seq (.reg none [⟨some 4, .mov (.c (.b false)), none⟩] [4])
    (.ret [4]))
  (.skip)))
  (.seq (.seq (.reg none [⟨some 8, .faddr 0 (.t 2), none⟩,
    ⟨some 9, .load none (.t 8), none⟩] [1, 2, 9])
  (.block 0 (.seq (.reg none [⟨some 11, .bin .eql (.t 9) (.c (.i 1)), none⟩,
      ⟨some 10, .mov (.t 11), none⟩] [1, 2, 9, 10])
    (.cond (.t 10) (.seq (.reg none [⟨some 12, .faddr 3 (.t 2), none⟩,
        ⟨some 13, .load none (.t 12), none⟩,
        ⟨some 14, .len false (.t 13), none⟩,
        ⟨some 15, .bin .neq (.t 14) (.c (.i 0)), none⟩,
        ⟨some 16, .mov (.t 15), none⟩,
        ⟨some 17, .faddr 1 (.t 2), some (16, false)⟩,
        ⟨some 18, .load none (.t 17), some (16, false)⟩,
        ⟨some 19, .bin .neq (.t 18) (.c (.i 0)), some (16, false)⟩,
        ⟨some 20, .pick (.t 16) (.c (.b true)) (.t 19), none⟩,
        ⟨some 21, .mov (.t 20), none⟩,
        ⟨some 22, .faddr 2 (.t 2), some (21, false)⟩,
        ⟨some 23, .load none (.t 22), some (21, false)⟩,
        ⟨some 24, .bin .neq (.t 23) (.c (.i 0)), some (21, false)⟩,
        ⟨some 25, .pick (.t 21) (.c (.b true)) (.t 24), none⟩] [1, 2, 25])
      (.cond (.t 25) (.seq (.reg none [⟨some 4, .mov (.c (.b false)), none⟩] [4])
        (.ret [4]))
      (.skip)))
    (.seq (.reg none [⟨some 27, .bin .eql (.t 9) (.c (.i 2)), none⟩,
        ⟨some 26, .mov (.t 27), none⟩] [1, 2, 9, 26])
      (.cond (.t 26) (.seq (.reg none [⟨some 28, .faddr 3 (.t 2), none⟩,
          ⟨some 29, .load none (.t 28), none⟩,
          ⟨some 30, .len false (.t 29), none⟩,
          ⟨some 31, .bin .neq (.t 30) (.c (.i 2)), none⟩,
          ⟨some 32, .mov (.t 31), none⟩,
          ⟨some 33, .faddr 1 (.t 2), some (32, false)⟩,
          ⟨some 34, .load none (.t 33), some (32, false)⟩,
          ⟨some 35, .bin .neq (.t 34) (.c (.i 0)), some (32, false)⟩,
          ⟨some 36, .pick (.t 32) (.c (.b true)) (.t 35), none⟩,
          ⟨some 37, .mov (.t 36), none⟩,
          ⟨some 38, .faddr 2 (.t 2), some (37, false)⟩,
          ⟨some 39, .load none (.t 38), some (37, false)⟩,
          ⟨some 40, .bin .neq (.t 39) (.c (.i 0)), some (37, false)⟩,
          ⟨some 41, .pick (.t 37) (.c (.b true)) (.t 40), none⟩] [1, 2, 41])
        (.cond (.t 41) (.seq (.reg none [⟨some 4, .mov (.c (.b false)), none⟩] [4])
          (.ret [4]))
        (.skip)))
      (.seq (.reg none [⟨some 43, .bin .eql (.t 9) (.c (.i 3)), none⟩,
          ⟨some 42, .mov (.t 43), none⟩] [1, 2, 9, 42])
        (.cond (.t 42) (.seq (.reg none [⟨some 44, .faddr 3 (.t 2), none⟩,
            ⟨some 45, .load none (.t 44), none⟩,
            ⟨some 46, .len false (.t 45), none⟩,
            ⟨some 47, .bin .neq (.t 46) (.c (.i 1)), none⟩,
            ⟨some 48, .mov (.t 47), none⟩,
            ⟨some 49, .faddr 1 (.t 2), some (48, false)⟩,
            ⟨some 50, .load none (.t 49), some (48, false)⟩,
            ⟨some 51, .bin .neq (.t 50) (.c (.i 0)), some (48, false)⟩,
            ⟨some 52, .pick (.t 48) (.c (.b true)) (.t 51), none⟩,
            ⟨some 53, .mov (.t 52), none⟩,
            ⟨some 54, .faddr 2 (.t 2), some (53, false)⟩,
            ⟨some 55, .load none (.t 54), some (53, false)⟩,
            ⟨some 56, .bin .neq (.t 55) (.c (.i 0)), some (53, false)⟩,
            ⟨some 57, .pick (.t 53) (.c (.b true)) (.t 56), none⟩] [1, 2, 57])
          (.cond (.t 57) (.seq (.reg none [⟨some 4, .mov (.c (.b false)), none⟩] [4])
            (.ret [4]))
          (.skip)))
        (.seq (.reg none [⟨some 59, .bin .eql (.t 9) (.c (.i 4)), none⟩,
            ⟨some 58, .mov (.t 59), none⟩] [1, 2, 58])
          (.cond (.t 58) (.seq (.reg none [⟨some 60, .faddr 1 (.t 2), none⟩,
              ⟨some 61, .load none (.t 60), none⟩,
              ⟨some 62, .bin .lss (.t 61) (.c (.i 1)), none⟩,
              ⟨some 63, .mov (.t 62), none⟩,
              ⟨some 64, .faddr 1 (.t 2), some (63, false)⟩,
              ⟨some 65, .load none (.t 64), some (63, false)⟩,
              ⟨some 66, .bin .gtr (.t 65) (.c (.i 3)), some (63, false)⟩,
              ⟨some 67, .pick (.t 63) (.c (.b true)) (.t 66), none⟩,
              ⟨some 68, .mov (.t 67), none⟩,
              ⟨some 69, .faddr 2 (.t 2), some (68, false)⟩,
              ⟨some 70, .load none (.t 69), some (68, false)⟩,
              ⟨some 71, .bin .lss (.t 70) (.c (.i 0)), some (68, false)⟩,
              ⟨some 72, .pick (.t 68) (.c (.b true)) (.t 71), none⟩,
              ⟨some 73, .mov (.t 72), none⟩,
              ⟨some 74, .faddr 2 (.t 2), some (73, false)⟩,
              ⟨some 75, .load none (.t 74), some (73, false)⟩,
              ⟨some 76, .bin .gtr (.t 75) (.c (.i 9999)), some (73, false)⟩,
              ⟨some 77, .pick (.t 73) (.c (.b true)) (.t 76), none⟩] [1, 2, 77])
            (.cond (.t 77) (.seq (.reg none [⟨some 4, .mov (.c (.b false)), none⟩] [4])
              (.ret [4]))
            (.skip)))
          (.seq (.reg none [⟨some 4, .mov (.c (.b false)), none⟩] [4])
            (.ret [4]))))))))))))
  (.seq (.seq (.reg none [⟨some 5, .mov (.c (.i 0)), none⟩] [1, 2, 5])
  (.block 1 (.loop ir_ref03_formedL0)))
  (.seq (.reg none [⟨some 4, .mov (.c (.b true)), none⟩] [4])
  (.ret [4])))))),
  [.t 4], 0⟩

def ir_slices_EqualFunc_of_Term_api_Term_api_Term_api_TermL0 : IC :=
  .cut (.seq (.reg none [⟨some 18, .bin .lss (.t 17) (.t 16), none⟩] [1, 2, 15, 16, 17, 18])
    (.seq (.cond (.t 18) (.skip)
    (.exit 0 []))
    (.seq (.block 1 (.seq (.reg none [⟨some 19, .mov (.t 17), none⟩,
        ⟨some 20, .iaddr none 4 (.t 15) (.t 17), none⟩,
        ⟨some 21, .load (some 4) (.t 20), none⟩,
        ⟨some 8, .alloc [(.i 0), (.i 0), (.i 0), (.sl true [])], none⟩,
        ⟨some 7, .mov (.t 19), none⟩,
        ⟨none, .store 4 (.t 8) (.t 21), none⟩] [1, 2, 7, 8, 15, 16, 17])
      (.ps [.ownAt 8 3 4] (.seq (.reg none [⟨some 22, .mov (.t 1), none⟩,
        ⟨some 23, .mov (.t 7), none⟩,
        ⟨some 24, .iaddr none 4 (.t 22) (.t 23), none⟩,
        ⟨some 25, .load (some 4) (.t 24), none⟩,
        ⟨some 9, .alloc [(.i 0), (.i 0), (.i 0), (.sl true [])], none⟩,
        ⟨none, .store 4 (.t 9) (.t 25), none⟩] [1, 2, 8, 9, 15, 16, 17])
      (.ps [.ownAt 9 3 4] (.seq (.reg none [⟨some 26, .mov (.t 2), none⟩,
        ⟨some 27, .load (some 4) (.t 8), none⟩,
        ⟨some 28, .load (some 4) (.t 9), none⟩,
        ⟨some 29, .call (.v (.t 26)) [(.t 27), (.t 28)], none⟩,
        ⟨some 30, .not (.t 29), none⟩] [1, 2, 15, 16, 17, 30])
      (.cond (.t 30) (.seq (.reg none [⟨some 6, .mov (.c (.b false)), none⟩] [6])
        (.ret [6]))
      (.skip))))))))
    (.reg none [⟨some 31, .bin .add (.t 17) (.c (.i 1)), none⟩,
      ⟨some 17, .mov (.t 31), none⟩] [1, 2, 15, 16, 17])))) [1, 2, 15, 16, 17]
/-- slices.EqualFunc[[]truss/api.Term,[]truss/api.Term,truss/api.Term,truss/api.Term] -/
def ir_slices_EqualFunc_of_Term_api_Term_api_Term_api_Term : IF := ⟨3,
  .seq (.reg none [⟨some 6, .mov (.c (.b false)), none⟩] [0, 1, 2])
  (.seq (.seq (.reg none [⟨some 10, .mov (.t 0), none⟩,
    ⟨some 11, .len false (.t 10), none⟩,
    ⟨some 12, .mov (.t 1), none⟩,
    ⟨some 13, .len false (.t 12), none⟩,
    ⟨some 14, .bin .neq (.t 11) (.t 13), none⟩] [0, 1, 2, 14])
  (.cond (.t 14) (.seq (.reg none [⟨some 6, .mov (.c (.b false)), none⟩] [6])
    (.ret [6]))
  (.skip)))
  (.seq (.seq (.reg none [⟨some 15, .mov (.t 0), none⟩,
    ⟨some 16, .len false (.t 15), none⟩,
    ⟨some 17, .mov (.c (.i 0)), none⟩] [1, 2, 15, 16, 17])
  (.block 0 (.loop ir_slices_EqualFunc_of_Term_api_Term_api_Term_api_TermL0)))
  (.seq (.reg none [⟨some 6, .mov (.c (.b true)), none⟩] [6])
  (.ret [6])))),
  [.t 6], 0⟩

/-- truss/sign.Check -/
def ir_sign_Check : IF := ⟨1,
  .seq (.reg none [⟨some 2, .alloc [(.i 0)], none⟩] [0, 2])
  (.seq (.seq (.reg none [⟨some 6, .mov (.t 0), none⟩,
    ⟨some 7, .len false (.t 6), none⟩,
    ⟨some 8, .bin .gtr (.t 7) (.c (.i 100)), none⟩] [0, 2, 8])
  (.cond (.t 8) (.seq (.reg none [⟨none, .store 1 (.t 2) (.c (.i 2)), none⟩] [2])
    (.ret [2]))
  (.skip)))
  (.seq (.reg none [⟨some 9, .mmap, none⟩,
    ⟨some 3, .alloc [(.k (.map none))], none⟩,
    ⟨none, .store 1 (.t 3) (.t 9), none⟩] [0, 2, 3])
  (.seq (.seq (.reg none [⟨some 10, .mov (.t 0), none⟩,
    ⟨some 11, .call (.f n_sign_each) [(.t 10)], none⟩] [2, 3, 11])
  (.block 0 (.rfunc (.t 11) [12, 13] [2, 3] (.seq (.reg none [⟨some 4, .mov (.t 12), none⟩] [2, 3, 4, 13])
      (.reg none [⟨some 5, .alloc [(.s ⟨#[]⟩), (.i 0), (.i 0), (.i 0), (.sl true []), (.i 0)], none⟩,
        ⟨none, .store 6 (.t 5) (.t 13), none⟩] [2, 3, 4, 5]))
    (.block 1 (.seq (.seq (.reg none [⟨some 14, .load none (.t 3), none⟩,
          ⟨some 15, .faddr 0 (.t 5), none⟩,
          ⟨some 16, .load none (.t 15), none⟩,
          ⟨some 17, .lookup true (.b false) (.t 14) (.t 16) false, none⟩,
          ⟨some 18, .mov (.t 17), none⟩,
          ⟨some 19, .mov (.t 4), some (18, false)⟩,
          ⟨some 20, .load (some 6) (.t 5), some (18, false)⟩,
          ⟨some 21, .call (.f n_sign_formed) [(.t 19), (.t 20)], some (18, false)⟩,
          ⟨some 22, .not (.t 21), some (18, false)⟩,
          ⟨some 23, .pick (.t 18) (.c (.b true)) (.t 22), none⟩] [2, 3, 5, 23])
        (.cond (.t 23) (.seq (.reg none [⟨none, .store 1 (.t 2) (.c (.i 2)), none⟩] [])
          (.ret []))
        (.skip)))
        (.reg none [⟨some 24, .load none (.t 3), none⟩,
          ⟨some 25, .faddr 0 (.t 5), none⟩,
          ⟨some 26, .load none (.t 25), none⟩,
          ⟨none, .mupd true (.t 24) (.t 26) (.c (.b true)), none⟩] []))))))
  (.seq (.reg none [⟨none, .store 1 (.t 2) (.c (.i 0)), none⟩] [2])
  (.ret [2]))))),
  [.cell 2 none], 0⟩

def ir_enum_newListerL0 : IC :=
  .cut (.seq (.reg none [⟨some 89, .bin .lss (.t 88) (.t 87), none⟩] [1, 3, 6, 10, 12, 17, 86, 87, 88, 89])
    (.seq (.cond (.t 89) (.skip)
    (.exit 0 [1, 3, 6, 10, 12, 17]))
    (.seq (.block 1 (.seq (.reg none [⟨some 90, .iaddr none 6 (.t 86) (.t 88), none⟩,
        ⟨some 91, .load (some 6) (.t 90), none⟩,
        ⟨some 19, .alloc [(.s ⟨#[]⟩), (.i 0), (.i 0), (.i 0), (.sl true []), (.i 0)], none⟩,
        ⟨none, .store 6 (.t 19) (.t 91), none⟩] [1, 3, 6, 10, 12, 17, 19, 86, 87, 88])
      (.seq (.reg none [⟨some 93, .faddr 1 (.t 19), none⟩,
        ⟨some 94, .load (some 4) (.t 93), none⟩,
        ⟨some 95, .call (.f n_term_Simple) [(.t 94)], none⟩,
        ⟨some 92, .mov (.t 95), none⟩,
        ⟨some 96, .extr 0 (.t 92), none⟩,
        ⟨some 97, .extr 1 (.t 92), none⟩,
        ⟨some 20, .alloc [(.sl true []), (.i 0)], none⟩,
        ⟨none, .store 2 (.t 20) (.t 96), none⟩,
        ⟨some 21, .mov (.t 97), none⟩] [1, 3, 6, 10, 12, 17, 20, 21, 86, 87, 88])
      (.ps [.ownAt 20 0 2] (.seq (.psa (.reg (some [(0, none), (1, none), (2, none), (3, none), (4, none), (5, none), (6, none), (7, none), (8, none), (9, none), (10, none), (11, none), (12, none)]) [⟨some 98, .mov (.t 17), none⟩,
        ⟨some 99, .nilc (.t 98), none⟩,
        ⟨some 100, .faddr 0 (.t 99), none⟩,
        ⟨some 101, .load none (.t 100), none⟩,
        ⟨some 102, .load (some 2) (.t 20), none⟩,
        ⟨some 103, .len false (.t 101), none⟩,
        ⟨some 104, .bslice 2 1 [(.sl true []), (.i 0)] [(0, (.c (.agg [(.sl true []), (.i 0)])))], none⟩,
        ⟨some 105, .appz 2 (.t 101) (.t 104), none⟩,
        ⟨some 106, .iaddr none 2 (.t 105) (.t 103), none⟩,
        ⟨none, .storeb 105 2 (.t 106) (.t 102), none⟩,
        ⟨some 107, .nilc (.t 98), none⟩,
        ⟨some 108, .faddr 0 (.t 107), none⟩,
        ⟨none, .storem [105] 1 (.t 108) (.t 105), none⟩] [1, 3, 6, 10, 12, 17, 21, 86, 87, 88, 108]) [.com 108 0])
      (.reg none [⟨some 109, .mov (.t 17), none⟩,
        ⟨some 110, .mov (.t 17), none⟩,
        ⟨some 111, .nilc (.t 110), none⟩,
        ⟨some 112, .faddr 1 (.t 111), none⟩,
        ⟨some 113, .load none (.t 112), none⟩,
        ⟨some 114, .mov (.t 21), none⟩,
        ⟨some 115, .bin .eql (.t 114) (.c (.i 0)), none⟩,
        ⟨some 116, .bslice 1 1 [(.b false)] [(0, (.t 115))], none⟩,
        ⟨some 117, .app 1 (.t 113) (.t 116), none⟩,
        ⟨some 118, .nilc (.t 109), none⟩,
        ⟨some 119, .faddr 1 (.t 118), none⟩,
        ⟨none, .store 1 (.t 119) (.t 117), none⟩] [1, 3, 6, 10, 12, 17, 86, 87, 88]))))))
    (.reg none [⟨some 120, .bin .add (.t 88) (.c (.i 1)), none⟩,
      ⟨some 88, .mov (.t 120), none⟩] [1, 3, 6, 10, 12, 17, 86, 87, 88])))) [1, 3, 6, 10, 12, 17, 86, 87, 88]
def ir_enum_newListerL1 : IC :=
  .cut (.seq (.reg none [⟨some 124, .bin .lss (.t 123) (.t 122), none⟩] [3, 6, 10, 12, 17, 22, 121, 122, 123, 124])
    (.seq (.cond (.t 124) (.skip)
    (.exit 2 [3, 6, 10, 12, 17, 22]))
    (.seq (.block 3 (.seq (.reg none [⟨some 125, .iaddr none 4 (.t 121) (.t 123), none⟩,
        ⟨some 126, .load (some 4) (.t 125), none⟩,
        ⟨some 24, .alloc [(.i 0), (.i 0), (.i 0), (.sl true [])], none⟩,
        ⟨none, .store 4 (.t 24) (.t 126), none⟩] [3, 6, 10, 12, 17, 22, 24, 121, 122, 123])
      (.ps [.ownAt 24 3 4] (.seq (.reg none [⟨some 128, .load (some 4) (.t 24), none⟩,
        ⟨some 129, .call (.f n_term_Simple) [(.t 128)], none⟩,
        ⟨some 127, .mov (.t 129), none⟩,
        ⟨some 130, .extr 0 (.t 127), none⟩,
        ⟨some 131, .extr 1 (.t 127), none⟩,
        ⟨some 25, .alloc [(.sl true []), (.i 0)], none⟩,
        ⟨none, .store 2 (.t 25) (.t 130), none⟩,
        ⟨some 26, .mov (.t 131), none⟩] [3, 6, 10, 12, 17, 22, 25, 121, 122, 123])
      (.ps [.ownAt 25 0 2] (.reg none [⟨some 132, .mov (.t 22), none⟩,
        ⟨some 133, .load (some 2) (.t 25), none⟩,
        ⟨some 134, .bslice 2 1 [(.sl true []), (.i 0)] [(0, (.t 133))], none⟩,
        ⟨some 135, .app 2 (.t 132) (.t 134), none⟩,
        ⟨some 22, .mov (.t 135), none⟩] [3, 6, 10, 12, 17, 22, 121, 122, 123]))))))
    (.reg none [⟨some 136, .bin .add (.t 123) (.c (.i 1)), none⟩,
      ⟨some 123, .mov (.t 136), none⟩] [3, 6, 10, 12, 17, 22, 121, 122, 123])))) [3, 6, 10, 12, 17, 22, 121, 122, 123]
def ir_enum_newListerL2 : IC :=
  .cut (.seq (.reg none [⟨some 145, .bin .lss (.t 144) (.t 143), none⟩] [10, 12, 17, 22, 27, 29, 143, 144, 145])
    (.seq (.cond (.t 145) (.skip)
    (.exit 4 [10, 12, 17, 22, 27, 29]))
    (.seq (.block 5 (.seq (.reg none [⟨some 146, .mov (.t 144), none⟩,
        ⟨some 30, .mov (.t 146), none⟩] [10, 12, 17, 22, 27, 29, 30, 143, 144])
      (.reg none [⟨some 147, .mov (.t 29), none⟩,
        ⟨some 148, .mov (.t 17), none⟩,
        ⟨some 149, .mov (.t 22), none⟩,
        ⟨some 150, .load (some 2) (.t 27), none⟩,
        ⟨some 151, .mov (.t 30), none⟩,
        ⟨some 152, .call (.f n_enum_lister_count) [(.t 148), (.t 149), (.t 150), (.t 151)], none⟩,
        ⟨some 153, .bin .add (.t 147) (.t 152), none⟩,
        ⟨some 154, .call (.f n_enum_bounded) [(.t 153)], none⟩,
        ⟨some 29, .mov (.t 154), none⟩] [10, 12, 17, 22, 27, 29, 143, 144])))
    (.reg none [⟨some 155, .bin .add (.t 144) (.c (.i 1)), none⟩,
      ⟨some 144, .mov (.t 155), none⟩] [10, 12, 17, 22, 27, 29, 143, 144])))) [10, 12, 17, 22, 27, 29, 143, 144]
/-- truss/enum.newLister -/
def ir_enum_newLister : IF := ⟨4,
  .seq (.reg none [⟨some 6, .box 4 (.t 2), none⟩,
    ⟨some 8, .mov (.c (.k (.pointer none))), none⟩,
    ⟨some 9, .mov (.c (.sl true [])), none⟩,
    ⟨some 10, .alloc [(.sl true []), (.i 0)], none⟩,
    ⟨some 11, .mov (.c (.i 0)), none⟩] [0, 1, 3, 6, 10])
  (.ps [.ownAt 6 3 4, .ownAt 10 0 2] (.seq (.reg none [⟨some 12, .mov (.c (.fn (.func n_enum_newLister_1) [])), none⟩] [0, 1, 3, 6, 10, 12])
  (.seq (.seq (.reg none [⟨some 32, .mov (.t 0), none⟩,
    ⟨some 33, .call (.f n_check_Signature) [(.t 32)], none⟩,
    ⟨some 31, .mov (.t 33), none⟩,
    ⟨some 34, .extr 0 (.t 31), none⟩,
    ⟨some 35, .extr 1 (.t 31), none⟩,
    ⟨some 13, .mov (.t 34), none⟩,
    ⟨some 14, .mov (.t 35), none⟩] [0, 1, 3, 6, 10, 12, 14])
  (.seq (.reg none [⟨some 36, .mov (.t 14), none⟩,
    ⟨some 37, .bin .neq (.t 36) (.c (.i 0)), none⟩] [0, 1, 3, 6, 10, 12, 14, 37])
  (.cond (.t 37) (.seq (.reg none [⟨some 38, .mov (.t 12), none⟩,
      ⟨some 39, .mov (.t 14), none⟩,
      ⟨some 40, .call (.v (.t 38)) [(.t 39)], none⟩,
      ⟨some 41, .extr 0 (.t 40), none⟩,
      ⟨some 42, .extr 1 (.t 40), none⟩,
      ⟨some 43, .extr 2 (.t 40), none⟩,
      ⟨some 44, .extr 3 (.t 40), none⟩,
      ⟨some 8, .mov (.t 41), none⟩,
      ⟨some 9, .mov (.t 42), none⟩,
      ⟨none, .store 2 (.t 10) (.t 43), none⟩,
      ⟨some 11, .mov (.t 44), none⟩] [8, 9, 10, 11])
    (.ret [8, 9, 10, 11]))
  (.skip))))
  (.seq (.seq (.reg none [⟨some 45, .mov (.t 0), none⟩,
    ⟨some 46, .mov (.t 1), none⟩,
    ⟨some 47, .call (.f n_check_Context) [(.t 45), (.c (.sl true [])), (.t 46)], none⟩,
    ⟨some 15, .mov (.t 47), none⟩] [0, 1, 3, 6, 10, 12, 15])
  (.seq (.reg none [⟨some 48, .mov (.t 15), none⟩,
    ⟨some 49, .bin .neq (.t 48) (.c (.i 0)), none⟩] [0, 1, 3, 6, 10, 12, 15, 49])
  (.cond (.t 49) (.seq (.reg none [⟨some 50, .mov (.t 12), none⟩,
      ⟨some 51, .mov (.t 15), none⟩,
      ⟨some 52, .call (.v (.t 50)) [(.t 51)], none⟩,
      ⟨some 53, .extr 0 (.t 52), none⟩,
      ⟨some 54, .extr 1 (.t 52), none⟩,
      ⟨some 55, .extr 2 (.t 52), none⟩,
      ⟨some 56, .extr 3 (.t 52), none⟩,
      ⟨some 8, .mov (.t 53), none⟩,
      ⟨some 9, .mov (.t 54), none⟩,
      ⟨none, .store 2 (.t 10) (.t 55), none⟩,
      ⟨some 11, .mov (.t 56), none⟩] [8, 9, 10, 11])
    (.ret [8, 9, 10, 11]))
  (.skip))))
  (.seq (.seq (.reg none [⟨some 57, .mov (.t 0), none⟩,
    ⟨some 58, .mov (.t 1), none⟩,
    ⟨some 59, .load (some 4) (.t 6), none⟩,
    ⟨some 60, .call (.f n_check_Type) [(.t 57), (.c (.sl true [])), (.t 58), (.t 59)], none⟩,
    ⟨some 16, .mov (.t 60), none⟩] [0, 1, 3, 6, 10, 12, 16])
  (.seq (.reg none [⟨some 61, .mov (.t 16), none⟩,
    ⟨some 62, .bin .neq (.t 61) (.c (.i 0)), none⟩] [0, 1, 3, 6, 10, 12, 16, 62])
  (.cond (.t 62) (.seq (.reg none [⟨some 63, .mov (.t 12), none⟩,
      ⟨some 64, .mov (.t 16), none⟩,
      ⟨some 65, .call (.v (.t 63)) [(.t 64)], none⟩,
      ⟨some 66, .extr 0 (.t 65), none⟩,
      ⟨some 67, .extr 1 (.t 65), none⟩,
      ⟨some 68, .extr 2 (.t 65), none⟩,
      ⟨some 69, .extr 3 (.t 65), none⟩,
      ⟨some 8, .mov (.t 66), none⟩,
      ⟨some 9, .mov (.t 67), none⟩,
      ⟨none, .store 2 (.t 10) (.t 68), none⟩,
      ⟨some 11, .mov (.t 69), none⟩] [8, 9, 10, 11])
    (.ret [8, 9, 10, 11]))
  (.skip))))
  (.seq (.seq (.reg none [⟨some 70, .mov (.t 3), none⟩,
    ⟨some 71, .bin .lss (.t 70) (.c (.i 0)), none⟩,
    ⟨some 72, .mov (.t 71), none⟩,
    ⟨some 73, .mov (.t 3), some (72, false)⟩,
    ⟨some 74, .bin .gtr (.t 73) (.c (.i 9)), some (72, false)⟩,
    ⟨some 75, .pick (.t 72) (.c (.b true)) (.t 74), none⟩] [0, 1, 3, 6, 10, 12, 75])
  (.cond (.t 75) (.seq (.reg none [⟨some 76, .mov (.t 12), none⟩,
      ⟨some 77, .call (.v (.t 76)) [(.c (.i 2))], none⟩,
      ⟨some 78, .extr 0 (.t 77), none⟩,
      ⟨some 79, .extr 1 (.t 77), none⟩,
      ⟨some 80, .extr 2 (.t 77), none⟩,
      ⟨some 81, .extr 3 (.t 77), none⟩,
      ⟨some 8, .mov (.t 78), none⟩,
      ⟨some 9, .mov (.t 79), none⟩,
      ⟨none, .store 2 (.t 10) (.t 80), none⟩,
      ⟨some 11, .mov (.t 81), none⟩] [8, 9, 10, 11])
    (.ret [8, 9, 10, 11]))
  (.skip)))
  (.seq (.reg none [⟨some 82, .mmap, none⟩,
    ⟨some 83, .mmap, none⟩,
    ⟨some 84, .build [(.sl true []), (.sl true []), (.k (.map none)), (.k (.map none))] [(2, 1, (.t 82)), (3, 1, (.t 83))], none⟩,
    ⟨some 85, .box 4 (.t 84), none⟩,
    ⟨some 17, .mov (.t 85), none⟩] [0, 1, 3, 6, 10, 12, 17])
  (.ps [.ownAt 17 0 2, .ownAt 17 1 1] (.seq (.seq (.reg none [⟨some 86, .mov (.t 0), none⟩,
    ⟨some 87, .len false (.t 86), none⟩,
    ⟨some 88, .mov (.c (.i 0)), none⟩] [1, 3, 6, 10, 12, 17, 86, 87, 88])
  (.block 0 (.loop ir_enum_newListerL0)))
  (.seq (.reg none [⟨some 22, .mov (.c (.sl true [])), none⟩] [1, 3, 6, 10, 12, 17, 22])
  (.ps [.own 22 2] (.seq (.seq (.reg none [⟨some 121, .mov (.t 1), none⟩,
    ⟨some 122, .len false (.t 121), none⟩,
    ⟨some 123, .mov (.c (.i 0)), none⟩] [3, 6, 10, 12, 17, 22, 121, 122, 123])
  (.block 2 (.loop ir_enum_newListerL1)))
  (.seq (.reg none [⟨some 138, .load (some 4) (.t 6), none⟩,
    ⟨some 139, .call (.f n_term_Simple) [(.t 138)], none⟩,
    ⟨some 137, .mov (.t 139), none⟩,
    ⟨some 140, .extr 0 (.t 137), none⟩,
    ⟨some 141, .extr 1 (.t 137), none⟩,
    ⟨some 27, .alloc [(.sl true []), (.i 0)], none⟩,
    ⟨none, .store 2 (.t 27) (.t 140), none⟩,
    ⟨some 28, .mov (.t 141), none⟩] [3, 10, 12, 17, 22, 27])
  (.ps [.ownAt 27 0 2] (.seq (.reg none [⟨some 29, .mov (.c (.i 0)), none⟩] [3, 10, 12, 17, 22, 27, 29])
  (.seq (.seq (.reg none [⟨some 142, .mov (.t 3), none⟩,
    ⟨some 143, .bin .add (.t 142) (.c (.i 1)), none⟩,
    ⟨some 144, .mov (.c (.i 0)), none⟩] [10, 12, 17, 22, 27, 29, 143, 144])
  (.block 4 (.loop ir_enum_newListerL2)))
  (.seq (.seq (.reg none [⟨some 156, .mov (.t 29), none⟩,
    ⟨some 157, .bin .gtr (.t 156) (.c (.i 3000)), none⟩] [10, 12, 17, 22, 27, 157])
  (.cond (.t 157) (.seq (.reg none [⟨some 158, .mov (.t 12), none⟩,
      ⟨some 159, .call (.v (.t 158)) [(.c (.i 5))], none⟩,
      ⟨some 160, .extr 0 (.t 159), none⟩,
      ⟨some 161, .extr 1 (.t 159), none⟩,
      ⟨some 162, .extr 2 (.t 159), none⟩,
      ⟨some 163, .extr 3 (.t 159), none⟩,
      ⟨some 8, .mov (.t 160), none⟩,
      ⟨some 9, .mov (.t 161), none⟩,
      ⟨none, .store 2 (.t 10) (.t 162), none⟩,
      ⟨some 11, .mov (.t 163), none⟩] [8, 9, 10, 11])
    (.ret [8, 9, 10, 11]))
  (.skip)))
  (.seq (.reg (some [(0, none), (1, none), (2, none), (3, none), (4, none), (5, none), (6, none)]) [⟨some 164, .mov (.t 17), none⟩,
    ⟨some 165, .mov (.t 22), none⟩,
    ⟨some 166, .load (some 2) (.t 27), none⟩,
    ⟨some 8, .mov (.t 164), none⟩,
    ⟨some 9, .mov (.t 165), none⟩,
    ⟨none, .store 2 (.t 10) (.t 166), none⟩,
    ⟨some 11, .mov (.c (.i 0)), none⟩] [8, 9, 10, 11])
  (.ret [8, 9, 10, 11]))))))))))))))))))),
  [.t 8, .t 9, .cell 10 (some 2), .t 11], 4⟩

def ir_enum_objects_1L1 : IC :=
  .cut (.seq (.reg none [⟨some 29, .bin .lss (.t 28) (.t 27), none⟩] [0, 2, 3, 4, 5, 6, 7, 14, 15, 26, 27, 28, 29])
    (.seq (.cond (.t 29) (.skip)
    (.exit 2 [0, 2, 3, 4, 5, 6, 7, 14, 15]))
    (.seq (.block 3 (.seq (.reg none [⟨some 30, .iaddr none 4 (.t 26) (.t 28), none⟩,
        ⟨some 31, .load (some 4) (.t 30), none⟩,
        ⟨some 12, .alloc [(.i 0), (.i 0), (.i 0), (.sl true [])], none⟩,
        ⟨none, .store 4 (.t 12) (.t 31), none⟩] [0, 2, 3, 4, 5, 6, 7, 12, 14, 15, 26, 27, 28])
      (.ps [.ownAt 12 3 4] (.seq (.reg none [⟨some 32, .load none (.t 5), none⟩,
        ⟨some 33, .load none (.t 6), none⟩,
        ⟨some 34, .load (some 4) (.t 12), none⟩,
        ⟨some 35, .load (some 4) (.t 7), none⟩,
        ⟨some 36, .call (.f n_check_Object) [(.t 32), (.c (.sl true [])), (.t 33), (.t 34), (.t 35)], none⟩,
        ⟨some 37, .bin .eql (.t 36) (.c (.i 0)), none⟩,
        ⟨some 38, .mov (.t 37), none⟩,
        ⟨some 39, .mov (.t 0), some (38, true)⟩,
        ⟨some 40, .load (some 4) (.t 12), some (38, true)⟩,
        ⟨some 41, .call (.f n_enum_copied) [(.t 40)], some (38, true)⟩,
        ⟨some 42, .call (.v (.t 39)) [(.t 41)], some (38, true)⟩,
        ⟨some 43, .not (.t 42), some (38, true)⟩,
        ⟨some 44, .pick (.t 38) (.t 43) (.c (.b false)), none⟩] [0, 2, 3, 4, 5, 6, 7, 14, 15, 26, 27, 28, 44])
      (.cond (.t 44) (.ret [])
      (.skip))))))
    (.reg none [⟨some 45, .bin .add (.t 28) (.c (.i 1)), none⟩,
      ⟨some 28, .mov (.t 45), none⟩] [0, 2, 3, 4, 5, 6, 7, 14, 15, 26, 27, 28])))) [0, 2, 3, 4, 5, 6, 7, 14, 15, 26, 27, 28]
def ir_enum_objects_1L0 : IC :=
  .cut (.seq (.reg none [⟨some 16, .bin .lss (.t 15) (.t 14), none⟩] [0, 2, 3, 4, 5, 6, 7, 14, 15, 16])
    (.seq (.cond (.t 16) (.skip)
    (.exit 0 []))
    (.seq (.block 1 (.seq (.reg none [⟨some 17, .mov (.t 15), none⟩,
        ⟨some 9, .mov (.t 17), none⟩] [0, 2, 3, 4, 5, 6, 7, 9, 14, 15])
      (.seq (.reg none [⟨some 18, .load none (.t 2), none⟩,
        ⟨some 19, .load none (.t 3), none⟩,
        ⟨some 20, .load (some 2) (.t 4), none⟩,
        ⟨some 21, .mov (.t 9), none⟩,
        ⟨some 22, .call (.f n_enum_lister_all) [(.t 18), (.t 19), (.t 20), (.t 21)], none⟩,
        ⟨some 23, .call (.f n_slices_Clone_of_Term_api_Term) [(.t 22)], none⟩,
        ⟨some 10, .mov (.t 23), none⟩] [0, 2, 3, 4, 5, 6, 7, 10, 14, 15])
      (.seq (.reg none [⟨some 24, .mov (.t 10), none⟩,
        ⟨some 25, .call (.f n_slices_SortFunc_of_Term_api_Term) [(.t 24), (.c (.fn (.func n_enum_objects_1_1) []))], none⟩] [0, 2, 3, 4, 5, 6, 7, 10, 14, 15])
      (.seq (.reg none [⟨some 26, .mov (.t 10), none⟩,
        ⟨some 27, .len false (.t 26), none⟩,
        ⟨some 28, .mov (.c (.i 0)), none⟩] [0, 2, 3, 4, 5, 6, 7, 14, 15, 26, 27, 28])
      (.block 2 (.loop ir_enum_objects_1L1)))))))
    (.reg none [⟨some 46, .bin .add (.t 15) (.c (.i 1)), none⟩,
      ⟨some 15, .mov (.t 46), none⟩] [0, 2, 3, 4, 5, 6, 7, 14, 15])))) [0, 2, 3, 4, 5, 6, 7, 14, 15]
/-- truss/enum.objects$1 -/
def ir_enum_objects_1 : IF := ⟨8,
  .seq (.reg none [⟨some 13, .load none (.t 1), none⟩,
    ⟨some 14, .bin .add (.t 13) (.c (.i 1)), none⟩,
    ⟨some 15, .mov (.c (.i 0)), none⟩] [0, 2, 3, 4, 5, 6, 7, 14, 15])
  (.block 0 (.loop ir_enum_objects_1L0)),
  [], 0⟩

/-- slices.Clone[[]truss/api.Term,truss/api.Term] -/
def ir_slices_Clone_of_Term_api_Term : IF := ⟨1,
  .seq (.reg none [⟨some 2, .mov (.c (.sl true [])), none⟩] [0])
  (.seq (.seq (.reg none [⟨some 3, .mov (.t 0), none⟩,
    ⟨some 4, .slnil false (.t 3), none⟩] [0, 4])
  (.cond (.t 4) (.seq (.reg none [⟨some 2, .mov (.c (.sl true [])), none⟩] [2])
    (.ret [2]))
  (.skip)))
  (.seq (.reg none [⟨some 5, .bslice 4 0 [(.i 0), (.i 0), (.i 0), (.sl true [])] [], none⟩,
    ⟨some 6, .mov (.t 0), none⟩,
    ⟨some 7, .appo 4 (.t 5) (.t 6), none⟩,
    ⟨some 2, .mov (.t 7), none⟩] [2])
  (.ret [2]))),
  [.t 2], 6⟩

def ir_enum_lister_allL1 : IC :=
  .cut (.seq (.reg none [⟨some 67, .bin .lss (.t 66) (.t 65), none⟩] [4, 9, 12, 13, 15, 59, 60, 61, 65, 66, 67])
    (.seq (.cond (.t 67) (.skip)
    (.exit 2 [4, 9, 12, 13, 15, 59, 60, 61]))
    (.seq (.block 3 (.reg none [⟨some 68, .load (some 4) (.t 15), none⟩,
        ⟨some 69, .bslice 4 1 [(.i 0), (.i 0), (.i 0), (.sl true [])] [(0, (.t 68))], none⟩,
        ⟨some 70, .build [(.i 0), (.i 0), (.i 0), (.sl true [])] [(0, 1, (.c (.i 3))), (3, 1, (.t 69))], none⟩,
        ⟨none, .store 4 (.t 15) (.t 70), none⟩] [4, 9, 12, 13, 15, 59, 60, 61, 65, 66]))
    (.reg none [⟨some 71, .bin .add (.t 66) (.c (.i 1)), none⟩,
      ⟨some 66, .mov (.t 71), none⟩] [4, 9, 12, 13, 15, 59, 60, 61, 65, 66])))) [4, 9, 12, 13, 15, 59, 60, 61, 65, 66]
def ir_enum_lister_allL0 : IC :=
  .cut (.seq (.reg none [⟨some 62, .bin .lss (.t 61) (.t 60), none⟩] [4, 9, 12, 13, 59, 60, 61, 62])
    (.seq (.cond (.t 62) (.skip)
    (.exit 0 [4, 9, 12]))
    (.seq (.block 1 (.seq (.reg none [⟨some 63, .iaddr none 4 (.t 59) (.t 61), none⟩,
        ⟨some 64, .load (some 4) (.t 63), none⟩,
        ⟨some 15, .alloc [(.i 0), (.i 0), (.i 0), (.sl true [])], none⟩,
        ⟨none, .store 4 (.t 15) (.t 64), none⟩] [4, 9, 12, 13, 15, 59, 60, 61])
      (.ps [.ownAt 15 3 4] (.seq (.seq (.reg none [⟨some 65, .mov (.t 13), none⟩,
        ⟨some 66, .mov (.c (.i 0)), none⟩] [4, 9, 12, 13, 15, 59, 60, 61, 65, 66])
      (.block 2 (.loop ir_enum_lister_allL1)))
      (.psa (.reg (some [(0, none), (1, none), (2, none), (3, none), (4, none), (5, none), (6, none), (7, none)]) [⟨some 72, .load none (.t 12), none⟩,
        ⟨some 73, .load (some 4) (.t 15), none⟩,
        ⟨some 74, .len false (.t 72), none⟩,
        ⟨some 75, .bslice 4 1 [(.i 0), (.i 0), (.i 0), (.sl true [])] [(0, (.c (.agg [(.i 0), (.i 0), (.i 0), (.sl true [])])))], none⟩,
        ⟨some 76, .appz 4 (.t 72) (.t 75), none⟩,
        ⟨some 77, .iaddr none 4 (.t 76) (.t 74), none⟩,
        ⟨none, .storeb 76 4 (.t 77) (.t 73), none⟩,
        ⟨none, .storem [76] 1 (.t 12) (.t 76), none⟩] [4, 9, 12, 13, 59, 60, 61]) [.com 12 0])))))
    (.reg none [⟨some 78, .bin .add (.t 61) (.c (.i 1)), none⟩,
      ⟨some 61, .mov (.t 78), none⟩] [4, 9, 12, 13, 59, 60, 61])))) [4, 9, 12, 13, 59, 60, 61]
/-- (*truss/enum.lister).all -/
def ir_enum_lister_all : IF := ⟨4,
  .seq (.reg none [⟨some 4, .box 1 (.t 0), none⟩,
    ⟨some 5, .box 1 (.t 1), none⟩,
    ⟨some 6, .box 2 (.t 2), none⟩,
    ⟨some 7, .box 1 (.t 3), none⟩,
    ⟨some 8, .mov (.c (.sl true [])), none⟩] [4, 5, 6, 7])
  (.ps [.ownAt 5 0 2, .ownAt 6 0 2] (.seq (.seq (.reg none [⟨some 17, .load none (.t 4), none⟩,
    ⟨some 18, .load none (.t 5), none⟩,
    ⟨some 19, .load (some 2) (.t 6), none⟩,
    ⟨some 20, .load none (.t 7), none⟩,
    ⟨some 21, .call (.f n_enum_lister_count) [(.t 17), (.t 18), (.t 19), (.t 20)], none⟩,
    ⟨some 22, .bin .eql (.t 21) (.c (.i 0)), none⟩] [4, 5, 6, 7, 22])
  (.cond (.t 22) (.seq (.reg none [⟨some 8, .mov (.c (.sl true [])), none⟩] [8])
    (.ret [8]))
  (.skip)))
  (.seq (.reg none [⟨some 23, .load none (.t 5), none⟩,
    ⟨some 24, .load (some 2) (.t 6), none⟩,
    ⟨some 25, .load none (.t 7), none⟩,
    ⟨some 26, .call (.f n_enum_at) [(.t 23), (.t 24), (.t 25)], none⟩,
    ⟨some 9, .alloc [(.s ⟨#[]⟩), (.s ⟨#[]⟩), (.i 0)], none⟩,
    ⟨none, .store 3 (.t 9) (.t 26), none⟩] [4, 5, 6, 7, 9])
  (.seq (.seq (.reg (some [(0, none), (1, none), (2, none), (3, none), (4, none), (5, none), (6, none), (7, none), (8, none), (9, none), (10, none)]) [⟨some 28, .load none (.t 4), none⟩,
    ⟨some 29, .nilc (.t 28), none⟩,
    ⟨some 30, .faddr 3 (.t 29), none⟩,
    ⟨some 31, .load none (.t 30), none⟩,
    ⟨some 32, .load (some 3) (.t 9), none⟩,
    ⟨some 33, .lookup2 [true, true, false] (.sl true []) (.t 31) (.t 32) true, none⟩,
    ⟨some 27, .mov (.t 33), none⟩,
    ⟨some 34, .extr 0 (.t 27), none⟩,
    ⟨some 35, .extr 1 (.t 27), none⟩,
    ⟨some 10, .mov (.t 34), none⟩,
    ⟨some 11, .mov (.t 35), none⟩] [4, 5, 6, 7, 9, 10, 11])
  (.seq (.reg none [⟨some 36, .mov (.t 11), none⟩] [4, 5, 6, 7, 9, 10, 36])
  (.cond (.t 36) (.seq (.reg none [⟨some 37, .mov (.t 10), none⟩,
      ⟨some 8, .mov (.t 37), none⟩] [8])
    (.ret [8]))
  (.skip))))
  (.seq (.reg none [⟨some 12, .alloc [(.sl true [])], none⟩] [4, 5, 6, 7, 9, 12])
  (.ps [.ownAt 12 0 4] (.seq (.seq (.reg none [⟨some 38, .faddr 0 (.t 6), none⟩,
    ⟨some 39, .load none (.t 38), none⟩,
    ⟨some 40, .len false (.t 39), none⟩,
    ⟨some 13, .mov (.t 40), none⟩] [4, 5, 6, 7, 9, 12, 13])
  (.seq (.reg none [⟨some 41, .mov (.t 13), none⟩,
    ⟨some 42, .bin .gtr (.t 41) (.c (.i 0)), none⟩] [4, 5, 6, 7, 9, 12, 13, 42])
  (.cond (.t 42) (.seq (.reg (some [(0, none), (1, none), (2, none), (3, none), (4, none), (5, none), (6, none), (7, none), (8, none), (9, none), (10, none), (11, none), (12, none), (13, none), (14, none), (15, none), (16, none), (17, none), (18, none)]) [⟨some 43, .load none (.t 4), none⟩,
      ⟨some 44, .load none (.t 5), none⟩,
      ⟨some 45, .load none (.t 5), none⟩,
      ⟨some 46, .len false (.t 45), none⟩,
      ⟨some 47, .load none (.t 5), none⟩,
      ⟨some 48, .len false (.t 47), none⟩,
      ⟨some 49, .slice 2 (.t 44) none (some (.t 46)) (some (.t 48)), none⟩,
      ⟨some 50, .faddr 0 (.t 6), none⟩,
      ⟨some 51, .load none (.t 50), none⟩,
      ⟨some 52, .appq 2 (.t 49) (.t 51), none⟩,
      ⟨some 53, .faddr 1 (.t 6), none⟩,
      ⟨some 54, .load none (.t 53), none⟩,
      ⟨some 55, .build [(.sl true []), (.i 0)] [(1, 1, (.t 54))], none⟩,
      ⟨some 56, .load none (.t 7), none⟩,
      ⟨some 57, .mov (.t 13), none⟩,
      ⟨some 58, .bin .sub (.t 56) (.t 57), none⟩,
      ⟨some 59, .call (.f n_enum_lister_all) [(.t 43), (.t 52), (.t 55), (.t 58)], none⟩,
      ⟨some 60, .len false (.t 59), none⟩,
      ⟨some 61, .mov (.c (.i 0)), none⟩] [4, 9, 12, 13, 59, 60, 61])
    (.block 0 (.loop ir_enum_lister_allL0)))
  (.seq (.reg none [⟨some 79, .load none (.t 4), none⟩,
      ⟨some 80, .load none (.t 5), none⟩,
      ⟨some 81, .faddr 1 (.t 6), none⟩,
      ⟨some 82, .load none (.t 81), none⟩,
      ⟨some 83, .call (.f n_enum_lister_heads) [(.t 79), (.t 80), (.t 82)], none⟩] [4, 5, 7, 9, 12, 83])
    (.block 4 (.rfunc (.t 83) [84] [4, 5, 7, 12] (.reg none [⟨some 16, .alloc [(.i 0), (.i 0), (.i 0), (.sl true []), (.sl true []), (.i 0)], none⟩,
          ⟨none, .store 6 (.t 16) (.t 84), none⟩] [4, 5, 7, 12, 16])
      (.block 5 (.reg none [⟨some 85, .load none (.t 4), none⟩,
            ⟨some 86, .load none (.t 5), none⟩,
            ⟨some 87, .faddr 4 (.t 16), none⟩,
            ⟨some 88, .faddr 0 (.t 87), none⟩,
            ⟨some 89, .load none (.t 88), none⟩,
            ⟨some 90, .load none (.t 7), none⟩,
            ⟨some 91, .bin .sub (.t 90) (.c (.i 1)), none⟩,
            ⟨some 92, .mfunc (.func n_enum_lister_all_1) [(.t 16), (.t 12)], none⟩,
            ⟨some 93, .call (.f n_enum_lister_spines) [(.t 85), (.t 86), (.t 89), (.t 91), (.c (.sl true [])), (.t 92)], none⟩] []))))))))
  (.seq (.reg (some [(0, none), (1, none), (2, none), (3, none), (4, none), (5, none), (6, none)]) [⟨some 94, .load none (.t 4), none⟩,
    ⟨some 95, .nilc (.t 94), none⟩,
    ⟨some 96, .faddr 3 (.t 95), none⟩,
    ⟨some 97, .load none (.t 96), none⟩,
    ⟨some 98, .load (some 3) (.t 9), none⟩,
    ⟨some 99, .load none (.t 12), none⟩,
    ⟨none, .mupd2 [true, true, false] (.t 97) (.t 98) (.t 99), none⟩] [12])
  (.seq (.reg none [⟨some 100, .load none (.t 12), none⟩,
    ⟨some 8, .mov (.t 100), none⟩] [8])
  (.ret [8])))))))))),
  [.t 8], 0⟩

/-- slices.SortFunc[[]truss/api.Term,truss/api.Term] -/
def ir_slices_SortFunc_of_Term_api_Term : IF := ⟨2,
  .seq (.reg none [⟨some 5, .mov (.t 0), none⟩,
    ⟨some 6, .len false (.t 5), none⟩,
    ⟨some 4, .mov (.t 6), none⟩] [0, 1, 4])
  (.reg none [⟨some 7, .mov (.t 0), none⟩,
    ⟨some 8, .mov (.t 4), none⟩,
    ⟨some 9, .mov (.t 4), none⟩,
    ⟨some 10, .conv .u64 (.t 9), none⟩,
    ⟨some 11, .call (.f n_math_bits_Len) [(.t 10)], none⟩,
    ⟨some 12, .mov (.t 1), none⟩,
    ⟨some 13, .call (.f n_slices_pdqsortCmpFunc_api_Term) [(.t 7), (.c (.i 0)), (.t 8), (.t 11), (.t 12)], none⟩] []),
  [], 0⟩

/-- truss/enum.objects$1$1 -/
def ir_enum_objects_1_1 : IF := ⟨2,
  .seq (.reg none [⟨some 2, .box 4 (.t 0), none⟩,
    ⟨some 3, .box 4 (.t 1), none⟩,
    ⟨some 4, .mov (.c (.i 0)), none⟩] [2, 3])
  (.ps [.ownAt 2 3 4, .ownAt 3 3 4] (.seq (.reg (some [(0, none), (1, none), (2, none), (3, none), (4, none), (5, none)]) [⟨some 5, .load (some 4) (.t 2), none⟩,
    ⟨some 6, .callq (.f n_enum_key) [(.t 5)], none⟩,
    ⟨some 7, .load (some 4) (.t 3), none⟩,
    ⟨some 8, .call (.f n_enum_key) [(.t 7)], none⟩,
    ⟨some 9, .call (.f n_slices_Compare_of_int_int) [(.t 6), (.t 8)], none⟩,
    ⟨some 4, .mov (.t 9), none⟩] [4])
  (.ret [4]))),
  [.t 4], 0⟩

/-- truss/check.Object -/
def ir_check_Object : IF := ⟨5,
  .seq (.reg none [⟨some 8, .box 4 (.t 3), none⟩,
    ⟨some 9, .box 4 (.t 4), none⟩,
    ⟨some 10, .mov (.c (.i 0)), none⟩] [0, 1, 2, 8, 9])
  (.ps [.ownAt 8 3 4, .ownAt 9 3 4] (.seq (.seq (.reg none [⟨some 11, .mov (.t 0), none⟩,
    ⟨some 12, .mov (.t 1), none⟩,
    ⟨some 13, .mov (.t 2), none⟩,
    ⟨some 14, .load (some 4) (.t 8), none⟩,
    ⟨some 15, .load (some 4) (.t 9), none⟩,
    ⟨some 16, .bslice 4 2 [(.i 0), (.i 0), (.i 0), (.sl true [])] [(0, (.t 14)), (1, (.t 15))], none⟩,
    ⟨some 17, .call (.f n_check_good) [(.t 11), (.t 12), (.t 13), (.t 16)], none⟩,
    ⟨some 18, .not (.t 17), none⟩] [0, 1, 2, 8, 9, 18])
  (.cond (.t 18) (.seq (.reg none [⟨some 10, .mov (.c (.i 2)), none⟩] [10])
    (.ret [10]))
  (.skip)))
  (.seq (.reg (some [(0, none), (1, none), (2, none), (3, none), (4, none), (5, none), (6, none), (7, none)]) [⟨some 19, .mov (.t 0), none⟩,
    ⟨some 20, .mov (.t 1), none⟩,
    ⟨some 21, .callq (.f n_check_over) [(.t 19), (.t 20)], none⟩,
    ⟨some 22, .mov (.t 2), none⟩,
    ⟨some 23, .load (some 4) (.t 8), none⟩,
    ⟨some 24, .load (some 4) (.t 9), none⟩,
    ⟨some 25, .call (.f n_check_kernel_isObject) [(.t 21), (.t 22), (.t 23), (.t 24)], none⟩,
    ⟨some 10, .mov (.t 25), none⟩] [10])
  (.ret [10])))),
  [.t 10], 0⟩

def ir_enum_copiedL0 : IC :=
  .cut (.seq (.reg none [⟨some 10, .bin .lss (.t 9) (.t 8), none⟩] [1, 2, 3, 7, 8, 9, 10])
    (.seq (.cond (.t 10) (.skip)
    (.exit 0 [1, 2, 3]))
    (.seq (.block 1 (.seq (.reg none [⟨some 11, .iaddr none 4 (.t 7) (.t 9), none⟩,
        ⟨some 12, .load (some 4) (.t 11), none⟩,
        ⟨some 5, .alloc [(.i 0), (.i 0), (.i 0), (.sl true [])], none⟩,
        ⟨none, .store 4 (.t 5) (.t 12), none⟩] [1, 2, 3, 5, 7, 8, 9])
      (.ps [.ownAt 5 3 4] (.reg none [⟨some 13, .mov (.t 3), none⟩,
        ⟨some 14, .load (some 4) (.t 5), none⟩,
        ⟨some 15, .call (.f n_enum_copied) [(.t 14)], none⟩,
        ⟨some 16, .bslice 4 1 [(.i 0), (.i 0), (.i 0), (.sl true [])] [(0, (.t 15))], none⟩,
        ⟨some 17, .app 4 (.t 13) (.t 16), none⟩,
        ⟨some 3, .mov (.t 17), none⟩] [1, 2, 3, 7, 8, 9]))))
    (.reg none [⟨some 18, .bin .add (.t 9) (.c (.i 1)), none⟩,
      ⟨some 9, .mov (.t 18), none⟩] [1, 2, 3, 7, 8, 9])))) [1, 2, 3, 7, 8, 9]
/-- truss/enum.copied -/
def ir_enum_copied : IF := ⟨1,
  .seq (.reg none [⟨some 1, .box 4 (.t 0), none⟩,
    ⟨some 2, .alloc [(.i 0), (.i 0), (.i 0), (.sl true [])], none⟩] [1, 2])
  (.ps [.ownAt 1 3 4, .ownAt 2 3 4] (.seq (.reg none [⟨some 3, .mov (.c (.sl true [])), none⟩] [1, 2, 3])
  (.ps [.own 3 4] (.seq (.seq (.reg none [⟨some 6, .faddr 3 (.t 1), none⟩,
    ⟨some 7, .load none (.t 6), none⟩,
    ⟨some 8, .len false (.t 7), none⟩,
    ⟨some 9, .mov (.c (.i 0)), none⟩] [1, 2, 3, 7, 8, 9])
  (.block 0 (.loop ir_enum_copiedL0)))
  (.seq (.reg none [⟨some 19, .mov (.t 3), none⟩,
    ⟨some 20, .faddr 3 (.t 1), none⟩,
    ⟨none, .store 1 (.t 20) (.t 19), none⟩] [1, 2])
  (.seq (.reg none [⟨some 21, .load (some 4) (.t 1), none⟩,
    ⟨none, .store 4 (.t 2) (.t 21), none⟩] [2])
  (.ret [2]))))))),
  [.cell 2 (some 4)], 0⟩

/-- slices.AppendSeq[[]truss/api.Term,truss/api.Term] -/
def ir_slices_AppendSeq_of_Term_api_Term : IF := ⟨2,
  .seq (.reg none [⟨some 2, .box 1 (.t 0), none⟩,
    ⟨some 4, .mov (.c (.sl true [])), none⟩] [1, 2])
  (.ps [.ownAt 2 0 4] (.seq (.seq (.reg none [⟨some 6, .mov (.t 1), none⟩] [2, 6])
  (.block 0 (.rfunc (.t 6) [7] [2] (.reg none [⟨some 5, .alloc [(.i 0), (.i 0), (.i 0), (.sl true [])], none⟩,
        ⟨none, .store 4 (.t 5) (.t 7), none⟩] [2, 5])
    (.block 1 (.psa (.reg (some [(0, none), (1, none), (2, none), (3, none), (4, none), (5, none), (6, none), (7, none)]) [⟨some 8, .load none (.t 2), none⟩,
          ⟨some 9, .load (some 4) (.t 5), none⟩,
          ⟨some 10, .len false (.t 8), none⟩,
          ⟨some 11, .bslice 4 1 [(.i 0), (.i 0), (.i 0), (.sl true [])] [(0, (.c (.agg [(.i 0), (.i 0), (.i 0), (.sl true [])])))], none⟩,
          ⟨some 12, .appz 4 (.t 8) (.t 11), none⟩,
          ⟨some 13, .iaddr none 4 (.t 12) (.t 10), none⟩,
          ⟨none, .storeb 12 4 (.t 13) (.t 9), none⟩,
          ⟨none, .storem [12] 1 (.t 2) (.t 12), none⟩] [2]) [.com 2 0])))))
  (.seq (.reg none [⟨some 14, .load none (.t 2), none⟩,
    ⟨some 4, .mov (.t 14), none⟩] [4])
  (.ret [4])))),
  [.t 4], 5⟩

def ir_term_properL0 : IC :=
  .cut (.seq (.seq (.reg none [⟨some 77, .mov (.t 9), none⟩,
      ⟨some 78, .mov (.t 7), none⟩,
      ⟨some 79, .bin .lss (.t 77) (.t 78), none⟩,
      ⟨some 80, .mov (.t 79), none⟩,
      ⟨some 81, .mov (.t 8), some (80, true)⟩,
      ⟨some 82, .pick (.t 80) (.t 81) (.c (.b false)), none⟩] [1, 2, 3, 7, 8, 9, 82])
    (.cond (.t 82) (.skip)
    (.exit 1 [8])))
    (.seq (.block 2 (.reg none [⟨some 85, .faddr 3 (.t 3), none⟩,
        ⟨some 86, .load none (.t 85), none⟩,
        ⟨some 87, .mov (.t 9), none⟩,
        ⟨some 88, .iaddr none 4 (.t 86) (.t 87), none⟩,
        ⟨some 89, .load (some 4) (.t 88), none⟩,
        ⟨some 90, .mov (.t 1), none⟩,
        ⟨some 91, .bin .add (.t 90) (.c (.i 1)), none⟩,
        ⟨some 92, .mov (.t 2), none⟩,
        ⟨some 93, .call (.f n_term_proper) [(.t 89), (.t 91), (.t 92)], none⟩,
        ⟨some 8, .mov (.t 93), none⟩] [1, 2, 3, 7, 8, 9]))
    (.reg none [⟨some 83, .mov (.t 9), none⟩,
      ⟨some 84, .bin .add (.t 83) (.c (.i 1)), none⟩,
      ⟨some 9, .mov (.t 84), none⟩] [1, 2, 3, 7, 8, 9]))) [1, 2, 3, 7, 8, 9]
/-- truss/term.proper -/
def ir_term_proper : IF := ⟨3,
  .seq (.reg none [⟨some 3, .box 4 (.t 0), none⟩,
    ⟨some 6, .mov (.c (.b false)), none⟩] [1, 2, 3])
  (.ps [.ownAt 3 3 4] (.seq (.seq (.reg none [⟨some 10, .mov (.t 2), none⟩,
    ⟨some 11, .nilc (.t 10), none⟩,
    ⟨some 12, .load none (.t 11), none⟩,
    ⟨some 13, .bin .add (.t 12) (.c (.i 1)), none⟩,
    ⟨some 14, .nilc (.t 10), none⟩,
    ⟨none, .store 1 (.t 14) (.t 13), none⟩] [1, 2, 3])
  (.seq (.reg none [⟨some 15, .mov (.t 2), none⟩,
    ⟨some 16, .nilc (.t 15), none⟩,
    ⟨some 17, .load none (.t 16), none⟩,
    ⟨some 18, .bin .gtr (.t 17) (.c (.i 600)), none⟩,
    ⟨some 19, .mov (.t 18), none⟩,
    ⟨some 20, .mov (.t 1), some (19, false)⟩,
    ⟨some 21, .bin .gtr (.t 20) (.c (.i 40)), some (19, false)⟩,
    ⟨some 22, .pick (.t 19) (.c (.b true)) (.t 21), none⟩] [1, 2, 3, 22])
  (.cond (.t 22) (.seq (.reg none [⟨some 6, .mov (.c (.b false)), none⟩] [6])
    (.ret [6]))
  (.skip))))
  (.seq (.reg none [⟨some 23, .faddr 3 (.t 3), none⟩,
    ⟨some 24, .load none (.t 23), none⟩,
    ⟨some 25, .len false (.t 24), none⟩,
    ⟨some 7, .mov (.t 25), none⟩] [1, 2, 3, 7])
  (.seq (.reg none [⟨some 26, .faddr 1 (.t 3), none⟩,
    ⟨some 27, .load none (.t 26), none⟩,
    ⟨some 28, .bin .eql (.t 27) (.c (.i 0)), none⟩,
    ⟨some 29, .mov (.t 28), none⟩,
    ⟨some 30, .faddr 2 (.t 3), some (29, true)⟩,
    ⟨some 31, .load none (.t 30), some (29, true)⟩,
    ⟨some 32, .bin .eql (.t 31) (.c (.i 0)), some (29, true)⟩,
    ⟨some 33, .pick (.t 29) (.t 32) (.c (.b false)), none⟩,
    ⟨some 8, .mov (.t 33), none⟩] [1, 2, 3, 7, 8])
  (.seq (.seq (.reg none [⟨some 34, .faddr 0 (.t 3), none⟩,
    ⟨some 35, .load none (.t 34), none⟩] [1, 2, 3, 7, 8, 35])
  (.block 0 (.seq (.reg none [⟨some 37, .bin .eql (.t 35) (.c (.i 1)), none⟩,
      ⟨some 36, .mov (.t 37), none⟩] [1, 2, 3, 7, 8, 35, 36])
    (.cond (.t 36) (.reg none [⟨some 38, .mov (.t 8), none⟩,
        ⟨some 39, .mov (.t 38), none⟩,
        ⟨some 40, .mov (.t 7), some (39, true)⟩,
        ⟨some 41, .bin .eql (.t 40) (.c (.i 0)), some (39, true)⟩,
        ⟨some 42, .pick (.t 39) (.t 41) (.c (.b false)), none⟩,
        ⟨some 8, .mov (.t 42), none⟩] [1, 2, 3, 7, 8])
    (.seq (.reg none [⟨some 44, .bin .eql (.t 35) (.c (.i 2)), none⟩,
        ⟨some 43, .mov (.t 44), none⟩] [1, 2, 3, 7, 8, 35, 43])
      (.cond (.t 43) (.reg none [⟨some 45, .mov (.t 8), none⟩,
          ⟨some 46, .mov (.t 45), none⟩,
          ⟨some 47, .mov (.t 7), some (46, true)⟩,
          ⟨some 48, .bin .eql (.t 47) (.c (.i 2)), some (46, true)⟩,
          ⟨some 49, .pick (.t 46) (.t 48) (.c (.b false)), none⟩,
          ⟨some 8, .mov (.t 49), none⟩] [1, 2, 3, 7, 8])
      (.seq (.reg none [⟨some 51, .bin .eql (.t 35) (.c (.i 3)), none⟩,
          ⟨some 50, .mov (.t 51), none⟩] [1, 2, 3, 7, 8, 35, 50])
        (.cond (.t 50) (.reg none [⟨some 52, .mov (.t 8), none⟩,
            ⟨some 53, .mov (.t 52), none⟩,
            ⟨some 54, .mov (.t 7), some (53, true)⟩,
            ⟨some 55, .bin .eql (.t 54) (.c (.i 1)), some (53, true)⟩,
            ⟨some 56, .pick (.t 53) (.t 55) (.c (.b false)), none⟩,
            ⟨some 8, .mov (.t 56), none⟩] [1, 2, 3, 7, 8])
        (.seq (.reg none [⟨some 58, .bin .eql (.t 35) (.c (.i 4)), none⟩,
            ⟨some 57, .mov (.t 58), none⟩] [1, 2, 3, 7, 57])
          (.cond (.t 57) (.reg none [⟨some 59, .faddr 1 (.t 3), none⟩,
              ⟨some 60, .load none (.t 59), none⟩,
              ⟨some 61, .bin .geq (.t 60) (.c (.i 1)), none⟩,
              ⟨some 62, .mov (.t 61), none⟩,
              ⟨some 63, .faddr 1 (.t 3), some (62, true)⟩,
              ⟨some 64, .load none (.t 63), some (62, true)⟩,
              ⟨some 65, .bin .leq (.t 64) (.c (.i 3)), some (62, true)⟩,
              ⟨some 66, .pick (.t 62) (.t 65) (.c (.b false)), none⟩,
              ⟨some 67, .mov (.t 66), none⟩,
              ⟨some 68, .faddr 2 (.t 3), some (67, true)⟩,
              ⟨some 69, .load none (.t 68), some (67, true)⟩,
              ⟨some 70, .bin .geq (.t 69) (.c (.i 0)), some (67, true)⟩,
              ⟨some 71, .pick (.t 67) (.t 70) (.c (.b false)), none⟩,
              ⟨some 72, .mov (.t 71), none⟩,
              ⟨some 73, .faddr 2 (.t 3), some (72, true)⟩,
              ⟨some 74, .load none (.t 73), some (72, true)⟩,
              ⟨some 75, .bin .leq (.t 74) (.c (.i 9999)), some (72, true)⟩,
              ⟨some 76, .pick (.t 72) (.t 75) (.c (.b false)), none⟩,
              ⟨some 8, .mov (.t 76), none⟩] [1, 2, 3, 7, 8])
          (.seq (.reg none [⟨some 6, .mov (.c (.b false)), none⟩] [6])
            (.ret [6]))))))))))))
  (.seq (.seq (.reg none [⟨some 9, .mov (.c (.i 0)), none⟩] [1, 2, 3, 7, 8, 9])
  (.block 1 (.loop ir_term_properL0)))
  (.seq (.reg none [⟨some 94, .mov (.t 8), none⟩,
    ⟨some 6, .mov (.t 94), none⟩] [6])
  (.ret [6])))))))),
  [.t 6], 0⟩

def ir_slices_IndexFunc_of_Term_api_TermL0 : IC :=
  .cut (.seq (.reg none [⟨some 9, .bin .lss (.t 8) (.t 7), none⟩] [0, 1, 7, 8, 9])
    (.seq (.cond (.t 9) (.skip)
    (.exit 0 []))
    (.seq (.block 1 (.seq (.reg none [⟨some 10, .mov (.t 8), none⟩,
        ⟨some 5, .mov (.t 10), none⟩] [0, 1, 5, 7, 8])
      (.seq (.reg none [⟨some 11, .mov (.t 1), none⟩,
        ⟨some 12, .mov (.t 0), none⟩,
        ⟨some 13, .mov (.t 5), none⟩,
        ⟨some 14, .iaddr none 4 (.t 12) (.t 13), none⟩,
        ⟨some 15, .load (some 4) (.t 14), none⟩,
        ⟨some 16, .call (.v (.t 11)) [(.t 15)], none⟩] [0, 1, 5, 7, 8, 16])
      (.cond (.t 16) (.seq (.reg none [⟨some 17, .mov (.t 5), none⟩,
          ⟨some 4, .mov (.t 17), none⟩] [4])
        (.ret [4]))
      (.skip)))))
    (.reg none [⟨some 18, .bin .add (.t 8) (.c (.i 1)), none⟩,
      ⟨some 8, .mov (.t 18), none⟩] [0, 1, 7, 8])))) [0, 1, 7, 8]
/-- slices.IndexFunc[[]truss/api.Term,truss/api.Term] -/
def ir_slices_IndexFunc_of_Term_api_Term : IF := ⟨2,
  .seq (.reg none [⟨some 4, .mov (.c (.i 0)), none⟩] [0, 1])
  (.seq (.seq (.reg none [⟨some 6, .mov (.t 0), none⟩,
    ⟨some 7, .len false (.t 6), none⟩,
    ⟨some 8, .mov (.c (.i 0)), none⟩] [0, 1, 7, 8])
  (.block 0 (.loop ir_slices_IndexFunc_of_Term_api_TermL0)))
  (.seq (.reg none [⟨some 4, .mov (.c (.i (-1))), none⟩] [4])
  (.ret [4]))),
  [.t 4], 0⟩

/-- cmp.Compare[int] -/
def ir_cmp_Compare_int : IF := ⟨2,
  .seq (.reg none [⟨some 4, .mov (.c (.i 0)), none⟩] [0, 1])
  (.seq (.reg none [⟨some 7, .mov (.t 0), none⟩,
    ⟨some 8, .call (.f n_cmp_isNaN_int) [(.t 7)], none⟩,
    ⟨some 5, .mov (.t 8), none⟩] [0, 1, 5])
  (.seq (.reg none [⟨some 9, .mov (.t 1), none⟩,
    ⟨some 10, .call (.f n_cmp_isNaN_int) [(.t 9)], none⟩,
    ⟨some 6, .mov (.t 10), none⟩] [0, 1, 5, 6])
  (.seq (.seq (.reg none [⟨some 11, .mov (.t 5), none⟩] [0, 1, 6, 11])
  (.cond (.t 11) (.seq (.seq (.reg none [⟨some 12, .mov (.t 6), none⟩] [12])
    (.cond (.t 12) (.seq (.reg none [⟨some 4, .mov (.c (.i 0)), none⟩] [4])
      (.ret [4]))
    (.skip)))
    (.seq (.reg none [⟨some 4, .mov (.c (.i (-1))), none⟩] [4])
    (.ret [4])))
  (.skip)))
  (.seq (.seq (.reg none [⟨some 13, .mov (.t 6), none⟩] [0, 1, 13])
  (.cond (.t 13) (.seq (.reg none [⟨some 4, .mov (.c (.i 1)), none⟩] [4])
    (.ret [4]))
  (.skip)))
  (.seq (.seq (.reg none [⟨some 14, .mov (.t 0), none⟩,
    ⟨some 15, .mov (.t 1), none⟩,
    ⟨some 16, .bin .lss (.t 14) (.t 15), none⟩] [0, 1, 16])
  (.cond (.t 16) (.seq (.reg none [⟨some 4, .mov (.c (.i (-1))), none⟩] [4])
    (.ret [4]))
  (.skip)))
  (.seq (.seq (.reg none [⟨some 17, .mov (.t 0), none⟩,
    ⟨some 18, .mov (.t 1), none⟩,
    ⟨some 19, .bin .gtr (.t 17) (.t 18), none⟩] [19])
  (.cond (.t 19) (.seq (.reg none [⟨some 4, .mov (.c (.i 1)), none⟩] [4])
    (.ret [4]))
  (.skip)))
  (.seq (.reg none [⟨some 4, .mov (.c (.i 0)), none⟩] [4])
  (.ret [4])))))))),
  [.t 4], 0⟩

/-- truss/sign.each -/
def ir_sign_each : IF := ⟨1,
  .seq (.reg none [⟨some 1, .box 1 (.t 0), none⟩,
    ⟨some 2, .mov (.c (.k .nilFunc)), none⟩] [1])
  (.ps [.ownAt 1 0 6] (.seq (.reg none [⟨some 3, .mfunc (.func n_sign_each_1) [(.t 1)], none⟩,
    ⟨some 2, .mov (.t 3), none⟩] [2])
  (.ret [2]))),
  [.t 2], 4⟩

/-- truss/sign.formed -/
def ir_sign_formed : IF := ⟨2,
  .seq (.reg none [⟨some 2, .box 1 (.t 0), none⟩,
    ⟨some 3, .box 6 (.t 1), none⟩,
    ⟨some 4, .mov (.c (.b false)), none⟩] [2, 3])
  (.ps [.ownAt 2 0 6] (.seq (.seq (.reg none [⟨some 10, .faddr 1 (.t 3), none⟩,
    ⟨some 11, .load (some 4) (.t 10), none⟩,
    ⟨some 12, .call (.f n_term_Check) [(.t 11)], none⟩,
    ⟨some 13, .bin .neq (.t 12) (.c (.i 0)), none⟩,
    ⟨some 14, .mov (.t 13), none⟩,
    ⟨some 15, .faddr 0 (.t 3), some (14, false)⟩,
    ⟨some 16, .load none (.t 15), some (14, false)⟩,
    ⟨some 17, .call (.f n_sign_name) [(.t 16)], some (14, false)⟩,
    ⟨some 18, .not (.t 17), some (14, false)⟩,
    ⟨some 19, .pick (.t 14) (.c (.b true)) (.t 18), none⟩,
    ⟨some 20, .mov (.t 19), none⟩,
    ⟨some 21, .faddr 5 (.t 3), some (20, false)⟩,
    ⟨some 22, .load none (.t 21), some (20, false)⟩,
    ⟨some 23, .bin .lss (.t 22) (.c (.i 0)), some (20, false)⟩,
    ⟨some 24, .pick (.t 20) (.c (.b true)) (.t 23), none⟩] [2, 3, 24])
  (.cond (.t 24) (.seq (.reg none [⟨some 4, .mov (.c (.b false)), none⟩] [4])
    (.ret [4]))
  (.skip)))
  (.seq (.reg none [⟨some 26, .faddr 1 (.t 3), none⟩,
    ⟨some 27, .load (some 4) (.t 26), none⟩,
    ⟨some 28, .call (.f n_term_Domains) [(.t 27)], none⟩,
    ⟨some 25, .mov (.t 28), none⟩,
    ⟨some 29, .extr 0 (.t 25), none⟩,
    ⟨some 30, .extr 1 (.t 25), none⟩,
    ⟨some 6, .alloc [(.i 0), (.i 0), (.i 0), (.sl true [])], none⟩,
    ⟨some 5, .mov (.t 29), none⟩,
    ⟨none, .store 4 (.t 6) (.t 30), none⟩] [2, 3, 5])
  (.seq (.reg none [⟨some 31, .faddr 5 (.t 3), none⟩,
    ⟨some 32, .load none (.t 31), none⟩,
    ⟨some 33, .mov (.t 5), none⟩,
    ⟨some 34, .len false (.t 33), none⟩,
    ⟨some 35, .bin .leq (.t 32) (.t 34), none⟩,
    ⟨some 7, .alloc [(.b false)], none⟩,
    ⟨none, .store 1 (.t 7) (.t 35), none⟩] [2, 3, 7])
  (.seq (.reg none [⟨some 36, .faddr 1 (.t 3), none⟩,
    ⟨some 37, .load (some 4) (.t 36), none⟩,
    ⟨some 38, .mfunc (.func n_sign_formed_1) [(.t 7), (.t 2)], none⟩,
    ⟨some 39, .call (.f n_term_Each) [(.t 37), (.c (.i 0)), (.t 38)], none⟩] [2, 3, 7])
  (.seq (.seq (.reg none [⟨some 40, .faddr 1 (.t 3), none⟩,
    ⟨some 41, .load (some 4) (.t 40), none⟩,
    ⟨some 42, .call (.f n_sign_kind) [(.t 41)], none⟩] [2, 3, 7, 42])
  (.cond (.t 42) (.seq (.reg none [⟨some 43, .load none (.t 7), none⟩,
      ⟨some 4, .mov (.t 43), none⟩] [4])
    (.ret [4]))
  (.skip)))
  (.seq (.reg none [⟨some 45, .faddr 1 (.t 3), none⟩,
    ⟨some 46, .load (some 4) (.t 45), none⟩,
    ⟨some 47, .call (.f n_sign_target) [(.t 46)], none⟩,
    ⟨some 44, .mov (.t 47), none⟩,
    ⟨some 48, .extr 0 (.t 44), none⟩,
    ⟨some 49, .extr 1 (.t 44), none⟩,
    ⟨some 8, .mov (.t 48), none⟩,
    ⟨some 9, .mov (.t 49), none⟩] [2, 7, 8, 9])
  (.seq (.reg none [⟨some 50, .load none (.t 7), none⟩,
    ⟨some 51, .mov (.t 50), none⟩,
    ⟨some 52, .mov (.t 9), some (51, true)⟩,
    ⟨some 53, .pick (.t 51) (.t 52) (.c (.b false)), none⟩,
    ⟨some 54, .mov (.t 53), none⟩,
    ⟨some 55, .load none (.t 2), some (54, true)⟩,
    ⟨some 56, .mov (.t 8), some (54, true)⟩,
    ⟨some 57, .iaddr none 6 (.t 55) (.t 56), some (54, true)⟩,
    ⟨some 58, .faddr 1 (.t 57), some (54, true)⟩,
    ⟨some 59, .load (some 4) (.t 58), some (54, true)⟩,
    ⟨some 60, .call (.f n_sign_kind) [(.t 59)], some (54, true)⟩,
    ⟨some 61, .pick (.t 54) (.t 60) (.c (.b false)), none⟩,
    ⟨some 4, .mov (.t 61), none⟩] [4])
  (.ret [4]))))))))),
  [.t 4], 0⟩

def ir_check_SignatureL0 : IC :=
  .cut (.seq (.reg none [⟨some 16, .bin .lss (.t 15) (.t 14), none⟩] [0, 13, 14, 15, 16])
    (.seq (.cond (.t 16) (.skip)
    (.exit 0 [0]))
    (.seq (.block 1 (.seq (.reg none [⟨some 17, .mov (.t 15), none⟩,
        ⟨some 18, .iaddr none 6 (.t 13) (.t 15), none⟩,
        ⟨some 19, .load (some 6) (.t 18), none⟩,
        ⟨some 6, .alloc [(.s ⟨#[]⟩), (.i 0), (.i 0), (.i 0), (.sl true []), (.i 0)], none⟩,
        ⟨some 5, .mov (.t 17), none⟩,
        ⟨none, .store 6 (.t 6) (.t 19), none⟩] [0, 5, 6, 13, 14, 15])
      (.seq (.reg (some [(0, none), (1, none), (2, none), (3, none), (4, none), (5, none), (6, none)]) [⟨some 20, .mov (.t 0), none⟩,
        ⟨some 21, .mov (.t 5), none⟩,
        ⟨some 22, .slice 6 (.t 20) none (some (.t 21)) none, none⟩,
        ⟨some 23, .faddr 1 (.t 6), none⟩,
        ⟨some 24, .load (some 4) (.t 23), none⟩,
        ⟨some 25, .call (.f n_check_class) [(.t 22), (.t 24)], none⟩,
        ⟨some 7, .mov (.t 25), none⟩] [0, 5, 7, 13, 14, 15])
      (.seq (.reg none [⟨some 26, .mov (.t 7), none⟩,
        ⟨some 27, .bin .neq (.t 26) (.c (.i 0)), none⟩] [0, 5, 7, 13, 14, 15, 27])
      (.cond (.t 27) (.seq (.reg none [⟨some 28, .mov (.t 5), none⟩,
          ⟨some 29, .mov (.t 7), none⟩,
          ⟨some 2, .mov (.t 28), none⟩,
          ⟨some 3, .mov (.t 29), none⟩] [2, 3])
        (.ret [2, 3]))
      (.skip))))))
    (.reg none [⟨some 30, .bin .add (.t 15) (.c (.i 1)), none⟩,
      ⟨some 15, .mov (.t 30), none⟩] [0, 13, 14, 15])))) [0, 13, 14, 15]
/-- truss/check.Signature -/
def ir_check_Signature : IF := ⟨1,
  .seq (.reg none [⟨some 2, .mov (.c (.i 0)), none⟩,
    ⟨some 3, .mov (.c (.i 0)), none⟩] [0])
  (.seq (.seq (.reg none [⟨some 8, .mov (.t 0), none⟩,
    ⟨some 9, .call (.f n_sign_Check) [(.t 8)], none⟩,
    ⟨some 4, .mov (.t 9), none⟩] [0, 4])
  (.seq (.reg none [⟨some 10, .mov (.t 4), none⟩,
    ⟨some 11, .bin .neq (.t 10) (.c (.i 0)), none⟩] [0, 4, 11])
  (.cond (.t 11) (.seq (.reg none [⟨some 12, .mov (.t 4), none⟩,
      ⟨some 2, .mov (.c (.i 0)), none⟩,
      ⟨some 3, .mov (.t 12), none⟩] [2, 3])
    (.ret [2, 3]))
  (.skip))))
  (.seq (.seq (.reg none [⟨some 13, .mov (.t 0), none⟩,
    ⟨some 14, .len false (.t 13), none⟩,
    ⟨some 15, .mov (.c (.i 0)), none⟩] [0, 13, 14, 15])
  (.block 0 (.loop ir_check_SignatureL0)))
  (.seq (.reg none [⟨some 31, .mov (.t 0), none⟩,
    ⟨some 32, .len false (.t 31), none⟩,
    ⟨some 2, .mov (.t 32), none⟩,
    ⟨some 3, .mov (.c (.i 0)), none⟩] [2, 3])
  (.ret [2, 3])))),
  [.t 2, .t 3], 0⟩

def ir_check_ContextL0 : IC :=
  .cut (.seq (.reg none [⟨some 18, .bin .lss (.t 17) (.t 16), none⟩] [0, 1, 2, 15, 16, 17, 18])
    (.seq (.cond (.t 18) (.skip)
    (.exit 0 []))
    (.seq (.block 1 (.seq (.reg none [⟨some 19, .mov (.t 17), none⟩,
        ⟨some 20, .iaddr none 4 (.t 15) (.t 17), none⟩,
        ⟨some 21, .load (some 4) (.t 20), none⟩,
        ⟨some 8, .alloc [(.i 0), (.i 0), (.i 0), (.sl true [])], none⟩,
        ⟨some 7, .mov (.t 19), none⟩,
        ⟨none, .store 4 (.t 8) (.t 21), none⟩] [0, 1, 2, 7, 8, 15, 16, 17])
      (.ps [.ownAt 8 3 4] (.seq (.reg (some [(0, none), (1, none), (2, none), (3, none), (4, none), (5, none), (6, none), (7, none), (8, none)]) [⟨some 22, .mov (.t 0), none⟩,
        ⟨some 23, .mov (.t 1), none⟩,
        ⟨some 24, .callq (.f n_check_over) [(.t 22), (.t 23)], none⟩,
        ⟨some 25, .mov (.t 2), none⟩,
        ⟨some 26, .mov (.t 7), none⟩,
        ⟨some 27, .slice 4 (.t 25) none (some (.t 26)) none, none⟩,
        ⟨some 28, .load (some 4) (.t 8), none⟩,
        ⟨some 29, .call (.f n_check_kernel_isType) [(.t 24), (.t 27), (.t 28)], none⟩,
        ⟨some 9, .mov (.t 29), none⟩] [0, 1, 2, 9, 15, 16, 17])
      (.seq (.reg none [⟨some 30, .mov (.t 9), none⟩,
        ⟨some 31, .bin .neq (.t 30) (.c (.i 0)), none⟩] [0, 1, 2, 9, 15, 16, 17, 31])
      (.cond (.t 31) (.seq (.reg none [⟨some 32, .mov (.t 9), none⟩,
          ⟨some 6, .mov (.t 32), none⟩] [6])
        (.ret [6]))
      (.skip)))))))
    (.reg none [⟨some 33, .bin .add (.t 17) (.c (.i 1)), none⟩,
      ⟨some 17, .mov (.t 33), none⟩] [0, 1, 2, 15, 16, 17])))) [0, 1, 2, 15, 16, 17]
/-- truss/check.Context -/
def ir_check_Context : IF := ⟨3,
  .seq (.reg none [⟨some 6, .mov (.c (.i 0)), none⟩] [0, 1, 2])
  (.seq (.seq (.reg none [⟨some 10, .mov (.t 0), none⟩,
    ⟨some 11, .mov (.t 1), none⟩,
    ⟨some 12, .mov (.t 2), none⟩,
    ⟨some 13, .call (.f n_check_good) [(.t 10), (.t 11), (.t 12), (.c (.sl true []))], none⟩,
    ⟨some 14, .not (.t 13), none⟩] [0, 1, 2, 14])
  (.cond (.t 14) (.seq (.reg none [⟨some 6, .mov (.c (.i 2)), none⟩] [6])
    (.ret [6]))
  (.skip)))
  (.seq (.seq (.reg none [⟨some 15, .mov (.t 2), none⟩,
    ⟨some 16, .len false (.t 15), none⟩,
    ⟨some 17, .mov (.c (.i 0)), none⟩] [0, 1, 2, 15, 16, 17])
  (.block 0 (.loop ir_check_ContextL0)))
  (.seq (.reg none [⟨some 6, .mov (.c (.i 0)), none⟩] [6])
  (.ret [6])))),
  [.t 6], 0⟩

/-- truss/check.Type -/
def ir_check_Type : IF := ⟨4,
  .seq (.reg none [⟨some 7, .box 4 (.t 3), none⟩,
    ⟨some 8, .mov (.c (.i 0)), none⟩] [0, 1, 2, 7])
  (.ps [.ownAt 7 3 4] (.seq (.seq (.reg none [⟨some 9, .mov (.t 0), none⟩,
    ⟨some 10, .mov (.t 1), none⟩,
    ⟨some 11, .mov (.t 2), none⟩,
    ⟨some 12, .load (some 4) (.t 7), none⟩,
    ⟨some 13, .bslice 4 1 [(.i 0), (.i 0), (.i 0), (.sl true [])] [(0, (.t 12))], none⟩,
    ⟨some 14, .call (.f n_check_good) [(.t 9), (.t 10), (.t 11), (.t 13)], none⟩,
    ⟨some 15, .not (.t 14), none⟩] [0, 1, 2, 7, 15])
  (.cond (.t 15) (.seq (.reg none [⟨some 8, .mov (.c (.i 2)), none⟩] [8])
    (.ret [8]))
  (.skip)))
  (.seq (.reg (some [(0, none), (1, none), (2, none), (3, none), (4, none), (5, none), (6, none)]) [⟨some 16, .mov (.t 0), none⟩,
    ⟨some 17, .mov (.t 1), none⟩,
    ⟨some 18, .callq (.f n_check_over) [(.t 16), (.t 17)], none⟩,
    ⟨some 19, .mov (.t 2), none⟩,
    ⟨some 20, .load (some 4) (.t 7), none⟩,
    ⟨some 21, .call (.f n_check_kernel_isType) [(.t 18), (.t 19), (.t 20)], none⟩,
    ⟨some 8, .mov (.t 21), none⟩] [8])
  (.ret [8])))),
  [.t 8], 0⟩

/-- truss/term.Simple -/
def ir_term_Simple : IF := ⟨1,
  .seq (.reg none [⟨some 1, .box 4 (.t 0), none⟩,
    ⟨some 2, .alloc [(.sl true []), (.i 0)], none⟩,
    ⟨some 3, .mov (.c (.i 0)), none⟩] [1, 2])
  (.ps [.ownAt 1 3 4, .ownAt 2 0 2] (.seq (.seq (.reg none [⟨some 5, .load (some 4) (.t 1), none⟩,
    ⟨some 6, .call (.f n_term_Check) [(.t 5)], none⟩,
    ⟨some 4, .mov (.t 6), none⟩] [1, 2, 4])
  (.seq (.reg none [⟨some 7, .mov (.t 4), none⟩,
    ⟨some 8, .bin .neq (.t 7) (.c (.i 0)), none⟩] [1, 2, 4, 8])
  (.cond (.t 8) (.seq (.reg none [⟨some 9, .build [(.sl true []), (.i 0)] [], none⟩,
      ⟨some 10, .mov (.t 4), none⟩,
      ⟨none, .store 2 (.t 2) (.t 9), none⟩,
      ⟨some 3, .mov (.t 10), none⟩] [2, 3])
    (.ret [2, 3]))
  (.skip))))
  (.seq (.reg none [⟨some 11, .load (some 4) (.t 1), none⟩,
    ⟨some 12, .call (.f n_term_simple) [(.t 11)], none⟩,
    ⟨some 13, .extr 0 (.t 12), none⟩,
    ⟨some 14, .extr 1 (.t 12), none⟩,
    ⟨none, .store 2 (.t 2) (.t 13), none⟩,
    ⟨some 3, .mov (.t 14), none⟩] [2, 3])
  (.ret [2, 3])))),
  [.cell 2 (some 2), .t 3], 0⟩

/-- truss/enum.bounded -/
def ir_enum_bounded : IF := ⟨1,
  .seq (.reg none [⟨some 2, .mov (.c (.i 0)), none⟩] [0])
  (.seq (.reg none [⟨some 3, .mov (.t 0), none⟩,
    ⟨some 4, .mm false (.t 3) (.c (.i 3001)), none⟩,
    ⟨some 2, .mov (.t 4), none⟩] [2])
  (.ret [2])),
  [.t 2], 0⟩

/-- (*truss/enum.lister).count -/
def ir_enum_lister_count : IF := ⟨4,
  .seq (.reg none [⟨some 4, .box 1 (.t 0), none⟩,
    ⟨some 5, .box 1 (.t 1), none⟩,
    ⟨some 6, .box 2 (.t 2), none⟩,
    ⟨some 7, .box 1 (.t 3), none⟩,
    ⟨some 8, .mov (.c (.i 0)), none⟩] [4, 5, 6, 7])
  (.ps [.ownAt 5 0 2, .ownAt 6 0 2] (.seq (.reg none [⟨some 15, .load none (.t 5), none⟩,
    ⟨some 16, .load (some 2) (.t 6), none⟩,
    ⟨some 17, .load none (.t 7), none⟩,
    ⟨some 18, .call (.f n_enum_at) [(.t 15), (.t 16), (.t 17)], none⟩,
    ⟨some 9, .alloc [(.s ⟨#[]⟩), (.s ⟨#[]⟩), (.i 0)], none⟩,
    ⟨none, .store 3 (.t 9) (.t 18), none⟩] [4, 5, 6, 7, 9])
  (.seq (.seq (.reg (some [(0, none), (1, none), (2, none), (3, none), (4, none), (5, none), (6, none), (7, none), (8, none), (9, none), (10, none)]) [⟨some 20, .load none (.t 4), none⟩,
    ⟨some 21, .nilc (.t 20), none⟩,
    ⟨some 22, .faddr 2 (.t 21), none⟩,
    ⟨some 23, .load none (.t 22), none⟩,
    ⟨some 24, .load (some 3) (.t 9), none⟩,
    ⟨some 25, .lookup2 [true, true, false] (.i 0) (.t 23) (.t 24) true, none⟩,
    ⟨some 19, .mov (.t 25), none⟩,
    ⟨some 26, .extr 0 (.t 19), none⟩,
    ⟨some 27, .extr 1 (.t 19), none⟩,
    ⟨some 10, .mov (.t 26), none⟩,
    ⟨some 11, .mov (.t 27), none⟩] [4, 5, 6, 7, 9, 10, 11])
  (.seq (.reg none [⟨some 28, .mov (.t 11), none⟩] [4, 5, 6, 7, 9, 10, 28])
  (.cond (.t 28) (.seq (.reg none [⟨some 29, .mov (.t 10), none⟩,
      ⟨some 8, .mov (.t 29), none⟩] [8])
    (.ret [8]))
  (.skip))))
  (.seq (.reg none [⟨some 12, .alloc [(.i 0)], none⟩,
    ⟨none, .store 1 (.t 12) (.c (.i 0)), none⟩] [4, 5, 6, 7, 9, 12])
  (.seq (.seq (.reg none [⟨some 30, .faddr 0 (.t 6), none⟩,
    ⟨some 31, .load none (.t 30), none⟩,
    ⟨some 32, .len false (.t 31), none⟩,
    ⟨some 13, .mov (.t 32), none⟩] [4, 5, 6, 7, 9, 12, 13])
  (.seq (.reg none [⟨some 33, .mov (.t 13), none⟩,
    ⟨some 34, .bin .gtr (.t 33) (.c (.i 0)), none⟩] [4, 5, 6, 7, 9, 12, 13, 34])
  (.cond (.t 34) (.seq (.reg none [⟨some 35, .load none (.t 7), none⟩,
      ⟨some 36, .mov (.t 13), none⟩,
      ⟨some 37, .bin .gtr (.t 35) (.t 36), none⟩] [4, 5, 6, 7, 9, 12, 13, 37])
    (.cond (.t 37) (.reg (some [(0, none), (1, none), (2, none), (3, none), (4, none), (5, none), (6, none), (7, none), (8, none), (9, none), (10, none), (11, none), (12, none), (13, none), (14, none), (15, none), (16, none), (17, none)]) [⟨some 38, .load none (.t 4), none⟩,
        ⟨some 39, .load none (.t 5), none⟩,
        ⟨some 40, .load none (.t 5), none⟩,
        ⟨some 41, .len false (.t 40), none⟩,
        ⟨some 42, .load none (.t 5), none⟩,
        ⟨some 43, .len false (.t 42), none⟩,
        ⟨some 44, .slice 2 (.t 39) none (some (.t 41)) (some (.t 43)), none⟩,
        ⟨some 45, .faddr 0 (.t 6), none⟩,
        ⟨some 46, .load none (.t 45), none⟩,
        ⟨some 47, .appq 2 (.t 44) (.t 46), none⟩,
        ⟨some 48, .faddr 1 (.t 6), none⟩,
        ⟨some 49, .load none (.t 48), none⟩,
        ⟨some 50, .build [(.sl true []), (.i 0)] [(1, 1, (.t 49))], none⟩,
        ⟨some 51, .load none (.t 7), none⟩,
        ⟨some 52, .mov (.t 13), none⟩,
        ⟨some 53, .bin .sub (.t 51) (.t 52), none⟩,
        ⟨some 54, .call (.f n_enum_lister_count) [(.t 38), (.t 47), (.t 50), (.t 53)], none⟩,
        ⟨none, .store 1 (.t 12) (.t 54), none⟩] [4, 9, 12])
    (.skip)))
  (.seq (.reg none [⟨some 55, .load none (.t 7), none⟩,
      ⟨some 56, .bin .gtr (.t 55) (.c (.i 0)), none⟩] [4, 5, 6, 7, 9, 12, 56])
    (.cond (.t 56) (.seq (.reg none [⟨some 57, .load none (.t 4), none⟩,
        ⟨some 58, .load none (.t 5), none⟩,
        ⟨some 59, .faddr 1 (.t 6), none⟩,
        ⟨some 60, .load none (.t 59), none⟩,
        ⟨some 61, .call (.f n_enum_lister_heads) [(.t 57), (.t 58), (.t 60)], none⟩] [4, 5, 7, 9, 12, 61])
      (.block 0 (.rfunc (.t 61) [62] [4, 5, 7, 12] (.reg none [⟨some 14, .alloc [(.i 0), (.i 0), (.i 0), (.sl true []), (.sl true []), (.i 0)], none⟩,
            ⟨none, .store 6 (.t 14) (.t 62), none⟩] [4, 5, 7, 12, 14])
        (.block 1 (.reg (some [(0, none), (1, none), (2, none), (3, none), (4, none), (5, none), (6, none), (7, none), (8, none), (9, none), (10, none), (11, none)]) [⟨some 63, .load none (.t 12), none⟩,
              ⟨some 64, .load none (.t 4), none⟩,
              ⟨some 65, .load none (.t 5), none⟩,
              ⟨some 66, .faddr 4 (.t 14), none⟩,
              ⟨some 67, .faddr 0 (.t 66), none⟩,
              ⟨some 68, .load none (.t 67), none⟩,
              ⟨some 69, .load none (.t 7), none⟩,
              ⟨some 70, .bin .sub (.t 69) (.c (.i 1)), none⟩,
              ⟨some 71, .callm [12] (.f n_enum_lister_ways) [(.t 64), (.t 65), (.t 68), (.t 70)], none⟩,
              ⟨some 72, .bin .add (.t 63) (.t 71), none⟩,
              ⟨some 73, .call (.f n_enum_bounded) [(.t 72)], none⟩,
              ⟨none, .store 1 (.t 12) (.t 73), none⟩] [])))))
    (.skip))))))
  (.seq (.reg (some [(0, none), (1, none), (2, none), (3, none), (4, none), (5, none), (6, none)]) [⟨some 74, .load none (.t 4), none⟩,
    ⟨some 75, .nilc (.t 74), none⟩,
    ⟨some 76, .faddr 2 (.t 75), none⟩,
    ⟨some 77, .load none (.t 76), none⟩,
    ⟨some 78, .load (some 3) (.t 9), none⟩,
    ⟨some 79, .load none (.t 12), none⟩,
    ⟨none, .mupd2 [true, true, false] (.t 77) (.t 78) (.t 79), none⟩] [12])
  (.seq (.reg none [⟨some 80, .load none (.t 12), none⟩,
    ⟨some 8, .mov (.t 80), none⟩] [8])
  (.ret [8])))))))),
  [.t 8], 0⟩

/-- truss/enum.at -/
def ir_enum_at : IF := ⟨3,
  .seq (.reg none [⟨some 4, .box 2 (.t 1), none⟩,
    ⟨some 6, .alloc [(.s ⟨#[]⟩), (.s ⟨#[]⟩), (.i 0)], none⟩] [0, 2, 4, 6])
  (.ps [.ownAt 4 0 2] (.seq (.reg (some [(0, none), (1, none), (2, none), (3, none), (4, none), (5, none), (6, none)]) [⟨some 7, .mov (.t 0), none⟩,
    ⟨some 8, .callq (.f n_enum_texts) [(.t 7)], none⟩,
    ⟨some 9, .load (some 2) (.t 4), none⟩,
    ⟨some 10, .call (.f n_enum_text) [(.t 9)], none⟩,
    ⟨some 11, .mov (.t 2), none⟩,
    ⟨some 12, .build [(.s ⟨#[]⟩), (.s ⟨#[]⟩), (.i 0)] [(0, 1, (.t 8)), (1, 1, (.t 10)), (2, 1, (.t 11))], none⟩,
    ⟨none, .store 3 (.t 6) (.t 12), none⟩] [6])
  (.ret [6]))),
  [.cell 6 (some 3)], 0⟩

/-- (*truss/enum.lister).heads -/
def ir_enum_lister_heads : IF := ⟨3,
  .seq (.reg none [⟨some 3, .box 1 (.t 0), none⟩,
    ⟨some 4, .box 1 (.t 1), none⟩,
    ⟨some 5, .box 1 (.t 2), none⟩,
    ⟨some 6, .mov (.c (.k .nilFunc)), none⟩] [3, 4, 5])
  (.ps [.ownAt 4 0 2] (.seq (.reg none [⟨some 7, .mfunc (.func n_enum_lister_heads_1) [(.t 4), (.t 5), (.t 3)], none⟩,
    ⟨some 6, .mov (.t 7), none⟩] [6])
  (.ret [6]))),
  [.t 6], 4⟩

def ir_enum_lister_spinesL1 : IC :=
  .cut (.seq (.reg none [⟨some 54, .bin .lss (.t 53) (.t 52), none⟩] [0, 1, 2, 3, 4, 5, 12, 51, 52, 53, 54])
    (.seq (.cond (.t 54) (.skip)
    (.exit 2 [0, 1, 2, 3, 4, 5, 12]))
    (.seq (.block 3 (.seq (.reg none [⟨some 55, .iaddr none 4 (.t 51) (.t 53), none⟩,
        ⟨some 56, .load (some 4) (.t 55), none⟩,
        ⟨some 14, .alloc [(.i 0), (.i 0), (.i 0), (.sl true [])], none⟩,
        ⟨none, .store 4 (.t 14) (.t 56), none⟩] [0, 1, 2, 3, 4, 5, 12, 14, 51, 52, 53])
      (.ps [.ownAt 14 3 4] (.reg (some [(0, none), (1, none), (2, none), (3, none), (4, none), (5, none), (6, none), (7, none), (8, none), (9, none), (10, none), (11, none), (12, none), (13, none), (14, none), (15, none), (16, none), (17, none)]) [⟨some 57, .mov (.t 0), none⟩,
        ⟨some 58, .mov (.t 1), none⟩,
        ⟨some 59, .mov (.t 2), none⟩,
        ⟨some 60, .slice 2 (.t 59) (some (.c (.i 1))) none none, none⟩,
        ⟨some 61, .mov (.t 3), none⟩,
        ⟨some 62, .mov (.t 12), none⟩,
        ⟨some 63, .bin .sub (.t 61) (.t 62), none⟩,
        ⟨some 64, .mov (.t 4), none⟩,
        ⟨some 65, .mov (.t 4), none⟩,
        ⟨some 66, .len false (.t 65), none⟩,
        ⟨some 67, .mov (.t 4), none⟩,
        ⟨some 68, .len false (.t 67), none⟩,
        ⟨some 69, .slice 4 (.t 64) none (some (.t 66)) (some (.t 68)), none⟩,
        ⟨some 70, .load (some 4) (.t 14), none⟩,
        ⟨some 71, .bslice 4 1 [(.i 0), (.i 0), (.i 0), (.sl true [])] [(0, (.t 70))], none⟩,
        ⟨some 72, .appq 4 (.t 69) (.t 71), none⟩,
        ⟨some 73, .mov (.t 5), none⟩,
        ⟨some 74, .call (.f n_enum_lister_spines) [(.t 57), (.t 58), (.t 60), (.t 63), (.t 72), (.t 73)], none⟩] [0, 1, 2, 3, 4, 5, 12, 51, 52, 53]))))
    (.reg none [⟨some 75, .bin .add (.t 53) (.c (.i 1)), none⟩,
      ⟨some 53, .mov (.t 75), none⟩] [0, 1, 2, 3, 4, 5, 12, 51, 52, 53])))) [0, 1, 2, 3, 4, 5, 12, 51, 52, 53]
def ir_enum_lister_spinesL0 : IC :=
  .cut (.seq (.seq (.reg none [⟨some 27, .mov (.t 12), none⟩,
      ⟨some 28, .mov (.t 3), none⟩,
      ⟨some 29, .mov (.t 2), none⟩,
      ⟨some 30, .len false (.t 29), none⟩,
      ⟨some 31, .bin .sub (.t 28) (.t 30), none⟩,
      ⟨some 32, .bin .add (.t 31) (.c (.i 1)), none⟩,
      ⟨some 33, .bin .leq (.t 27) (.t 32), none⟩] [0, 1, 2, 3, 4, 5, 12, 33])
    (.cond (.t 33) (.skip)
    (.exit 0 [])))
    (.seq (.block 1 (.seq (.seq (.reg none [⟨some 36, .mov (.t 0), none⟩,
        ⟨some 37, .mov (.t 1), none⟩,
        ⟨some 38, .mov (.t 2), none⟩,
        ⟨some 39, .slice 2 (.t 38) (some (.c (.i 1))) none none, none⟩,
        ⟨some 40, .mov (.t 3), none⟩,
        ⟨some 41, .mov (.t 12), none⟩,
        ⟨some 42, .bin .sub (.t 40) (.t 41), none⟩,
        ⟨some 43, .call (.f n_enum_lister_ways) [(.t 36), (.t 37), (.t 39), (.t 42)], none⟩,
        ⟨some 44, .bin .eql (.t 43) (.c (.i 0)), none⟩] [0, 1, 2, 3, 4, 5, 12, 44])
      (.cond (.t 44) (.exit 1 [0, 1, 2, 3, 4, 5, 12])
      (.skip)))
      (.seq (.reg none [⟨some 45, .mov (.t 0), none⟩,
        ⟨some 46, .mov (.t 1), none⟩,
        ⟨some 47, .mov (.t 2), none⟩,
        ⟨some 48, .iaddr none 2 (.t 47) (.c (.i 0)), none⟩,
        ⟨some 49, .load (some 2) (.t 48), none⟩,
        ⟨some 50, .mov (.t 12), none⟩,
        ⟨some 51, .call (.f n_enum_lister_all) [(.t 45), (.t 46), (.t 49), (.t 50)], none⟩,
        ⟨some 52, .len false (.t 51), none⟩,
        ⟨some 53, .mov (.c (.i 0)), none⟩] [0, 1, 2, 3, 4, 5, 12, 51, 52, 53])
      (.block 2 (.loop ir_enum_lister_spinesL1)))))
    (.reg none [⟨some 34, .mov (.t 12), none⟩,
      ⟨some 35, .bin .add (.t 34) (.c (.i 1)), none⟩,
      ⟨some 12, .mov (.t 35), none⟩] [0, 1, 2, 3, 4, 5, 12]))) [0, 1, 2, 3, 4, 5, 12]
/-- (*truss/enum.lister).spines -/
def ir_enum_lister_spines : IF := ⟨6,
  .seq (.seq (.reg none [⟨some 15, .mov (.t 0), none⟩,
    ⟨some 16, .mov (.t 1), none⟩,
    ⟨some 17, .mov (.t 2), none⟩,
    ⟨some 18, .mov (.t 3), none⟩,
    ⟨some 19, .call (.f n_enum_lister_ways) [(.t 15), (.t 16), (.t 17), (.t 18)], none⟩,
    ⟨some 20, .bin .eql (.t 19) (.c (.i 0)), none⟩] [0, 1, 2, 3, 4, 5, 20])
  (.cond (.t 20) (.ret [])
  (.skip)))
  (.seq (.seq (.reg none [⟨some 21, .mov (.t 2), none⟩,
    ⟨some 22, .len false (.t 21), none⟩,
    ⟨some 23, .bin .eql (.t 22) (.c (.i 0)), none⟩] [0, 1, 2, 3, 4, 5, 23])
  (.cond (.t 23) (.seq (.reg none [⟨some 24, .mov (.t 5), none⟩,
      ⟨some 25, .mov (.t 4), none⟩,
      ⟨some 26, .call (.v (.t 24)) [(.t 25)], none⟩] [])
    (.ret []))
  (.skip)))
  (.seq (.reg none [⟨some 12, .mov (.c (.i 1)), none⟩] [0, 1, 2, 3, 4, 5, 12])
  (.block 0 (.loop ir_enum_lister_spinesL0)))),
  [], 0⟩

/-- (*truss/enum.lister).all$1 -/
def ir_enum_lister_all_1 : IF := ⟨3,
  .seq (.reg none [⟨some 5, .faddr 0 (.t 1), none⟩,
    ⟨some 6, .load (some 4) (.t 5), none⟩,
    ⟨some 4, .alloc [(.i 0), (.i 0), (.i 0), (.sl true [])], none⟩,
    ⟨none, .store 4 (.t 4) (.t 6), none⟩] [0, 2, 4])
  (.ps [.ownAt 4 3 4] (.seq (.reg none [⟨some 7, .mov (.t 0), none⟩,
    ⟨some 8, .call (.f n_slices_Clone_of_Term_api_Term) [(.t 7)], none⟩,
    ⟨some 9, .faddr 3 (.t 4), none⟩,
    ⟨none, .store 1 (.t 9) (.t 8), none⟩] [2, 4])
  (.psa (.reg (some [(0, none), (1, none), (2, none), (3, none), (4, none), (5, none), (6, none), (7, none)]) [⟨some 10, .load none (.t 2), none⟩,
    ⟨some 11, .load (some 4) (.t 4), none⟩,
    ⟨some 12, .len false (.t 10), none⟩,
    ⟨some 13, .bslice 4 1 [(.i 0), (.i 0), (.i 0), (.sl true [])] [(0, (.c (.agg [(.i 0), (.i 0), (.i 0), (.sl true [])])))], none⟩,
    ⟨some 14, .appz 4 (.t 10) (.t 13), none⟩,
    ⟨some 15, .iaddr none 4 (.t 14) (.t 12), none⟩,
    ⟨none, .storeb 14 4 (.t 15) (.t 11), none⟩,
    ⟨none, .storem [14] 1 (.t 2) (.t 14), none⟩] [2]) [.com 2 0]))),
  [], 0⟩

def ir_slices_pdqsortCmpFunc_api_TermL0 : IC :=
  .cut (.block 1 (.seq (.reg none [⟨some 21, .mov (.t 2), none⟩,
        ⟨some 22, .mov (.t 1), none⟩,
        ⟨some 23, .bin .sub (.t 21) (.t 22), none⟩,
        ⟨some 12, .mov (.t 23), none⟩] [0, 1, 2, 3, 4, 10, 11, 12])
      (.seq (.seq (.reg none [⟨some 24, .mov (.t 12), none⟩,
        ⟨some 25, .bin .leq (.t 24) (.c (.i 12)), none⟩] [0, 1, 2, 3, 4, 10, 11, 12, 25])
      (.cond (.t 25) (.seq (.reg none [⟨some 26, .mov (.t 0), none⟩,
          ⟨some 27, .mov (.t 1), none⟩,
          ⟨some 28, .mov (.t 2), none⟩,
          ⟨some 29, .mov (.t 4), none⟩,
          ⟨some 30, .call (.f n_slices_insertionSortCmpFunc_api_Term) [(.t 26), (.t 27), (.t 28), (.t 29)], none⟩] [])
        (.ret []))
      (.skip)))
      (.seq (.seq (.reg none [⟨some 31, .mov (.t 3), none⟩,
        ⟨some 32, .bin .eql (.t 31) (.c (.i 0)), none⟩] [0, 1, 2, 3, 4, 10, 11, 12, 32])
      (.cond (.t 32) (.seq (.reg none [⟨some 33, .mov (.t 0), none⟩,
          ⟨some 34, .mov (.t 1), none⟩,
          ⟨some 35, .mov (.t 2), none⟩,
          ⟨some 36, .mov (.t 4), none⟩,
          ⟨some 37, .call (.f n_slices_heapSortCmpFunc_api_Term) [(.t 33), (.t 34), (.t 35), (.t 36)], none⟩] [])
        (.ret []))
      (.skip)))
      (.seq (.seq (.reg none [⟨some 38, .mov (.t 10), none⟩,
        ⟨some 39, .not (.t 38), none⟩] [0, 1, 2, 3, 4, 10, 11, 12, 39])
      (.cond (.t 39) (.seq (.reg none [⟨some 40, .mov (.t 0), none⟩,
          ⟨some 41, .mov (.t 1), none⟩,
          ⟨some 42, .mov (.t 2), none⟩,
          ⟨some 43, .mov (.t 4), none⟩,
          ⟨some 44, .call (.f n_slices_breakPatternsCmpFunc_api_Term) [(.t 40), (.t 41), (.t 42), (.t 43)], none⟩] [0, 1, 2, 3, 4, 10, 11, 12])
        (.reg none [⟨some 45, .mov (.t 3), none⟩,
          ⟨some 46, .bin .sub (.t 45) (.c (.i 1)), none⟩,
          ⟨some 3, .mov (.t 46), none⟩] [0, 1, 2, 3, 4, 10, 11, 12]))
      (.skip)))
      (.seq (.reg none [⟨some 48, .mov (.t 0), none⟩,
        ⟨some 49, .mov (.t 1), none⟩,
        ⟨some 50, .mov (.t 2), none⟩,
        ⟨some 51, .mov (.t 4), none⟩,
        ⟨some 52, .call (.f n_slices_choosePivotCmpFunc_api_Term) [(.t 48), (.t 49), (.t 50), (.t 51)], none⟩,
        ⟨some 47, .mov (.t 52), none⟩,
        ⟨some 53, .extr 0 (.t 47), none⟩,
        ⟨some 54, .extr 1 (.t 47), none⟩,
        ⟨some 13, .mov (.t 53), none⟩,
        ⟨some 14, .mov (.t 54), none⟩] [0, 1, 2, 3, 4, 10, 11, 12, 13, 14])
      (.seq (.seq (.reg none [⟨some 55, .mov (.t 14), none⟩,
        ⟨some 56, .bin .eql (.t 55) (.c (.i 2)), none⟩] [0, 1, 2, 3, 4, 10, 11, 12, 13, 14, 56])
      (.cond (.t 56) (.seq (.reg none [⟨some 57, .mov (.t 0), none⟩,
          ⟨some 58, .mov (.t 1), none⟩,
          ⟨some 59, .mov (.t 2), none⟩,
          ⟨some 60, .mov (.t 4), none⟩,
          ⟨some 61, .call (.f n_slices_reverseRangeCmpFunc_api_Term) [(.t 57), (.t 58), (.t 59), (.t 60)], none⟩] [0, 1, 2, 3, 4, 10, 11, 12, 13])
        (.seq (.reg none [⟨some 62, .mov (.t 2), none⟩,
          ⟨some 63, .bin .sub (.t 62) (.c (.i 1)), none⟩,
          ⟨some 64, .mov (.t 13), none⟩,
          ⟨some 65, .mov (.t 1), none⟩,
          ⟨some 66, .bin .sub (.t 64) (.t 65), none⟩,
          ⟨some 67, .bin .sub (.t 63) (.t 66), none⟩,
          ⟨some 13, .mov (.t 67), none⟩] [0, 1, 2, 3, 4, 10, 11, 12, 13])
        (.reg none [⟨some 14, .mov (.c (.i 1)), none⟩] [0, 1, 2, 3, 4, 10, 11, 12, 13, 14])))
      (.skip)))
      (.seq (.seq (.reg none [⟨some 68, .mov (.t 10), none⟩,
        ⟨some 69, .mov (.t 68), none⟩,
        ⟨some 70, .mov (.t 11), some (69, true)⟩,
        ⟨some 71, .pick (.t 69) (.t 70) (.c (.b false)), none⟩,
        ⟨some 72, .mov (.t 71), none⟩,
        ⟨some 73, .mov (.t 14), some (72, true)⟩,
        ⟨some 74, .bin .eql (.t 73) (.c (.i 1)), some (72, true)⟩,
        ⟨some 75, .pick (.t 72) (.t 74) (.c (.b false)), none⟩] [0, 1, 2, 3, 4, 10, 11, 12, 13, 75])
      (.cond (.t 75) (.seq (.reg none [⟨some 76, .mov (.t 0), none⟩,
          ⟨some 77, .mov (.t 1), none⟩,
          ⟨some 78, .mov (.t 2), none⟩,
          ⟨some 79, .mov (.t 4), none⟩,
          ⟨some 80, .call (.f n_slices_partialInsertionSortCmpFunc_api_Term) [(.t 76), (.t 77), (.t 78), (.t 79)], none⟩] [0, 1, 2, 3, 4, 10, 11, 12, 13, 80])
        (.cond (.t 80) (.ret [])
        (.skip)))
      (.skip)))
      (.seq (.seq (.reg (some [(0, none), (1, none), (2, none), (3, none), (4, none), (5, none), (6, none), (7, none), (8, none), (9, none), (10, none), (11, none), (12, none), (13, none), (14, none), (15, none), (16, none)]) [⟨some 81, .mov (.t 1), none⟩,
        ⟨some 82, .bin .gtr (.t 81) (.c (.i 0)), none⟩,
        ⟨some 83, .mov (.t 82), none⟩,
        ⟨some 84, .mov (.t 4), some (83, true)⟩,
        ⟨some 85, .mov (.t 0), some (83, true)⟩,
        ⟨some 86, .mov (.t 1), some (83, true)⟩,
        ⟨some 87, .bin .sub (.t 86) (.c (.i 1)), some (83, true)⟩,
        ⟨some 88, .iaddr none 4 (.t 85) (.t 87), some (83, true)⟩,
        ⟨some 89, .load (some 4) (.t 88), some (83, true)⟩,
        ⟨some 90, .mov (.t 0), some (83, true)⟩,
        ⟨some 91, .mov (.t 13), some (83, true)⟩,
        ⟨some 92, .iaddr none 4 (.t 90) (.t 91), some (83, true)⟩,
        ⟨some 93, .load (some 4) (.t 92), some (83, true)⟩,
        ⟨some 94, .call (.v (.t 84)) [(.t 89), (.t 93)], some (83, true)⟩,
        ⟨some 95, .bin .lss (.t 94) (.c (.i 0)), some (83, true)⟩,
        ⟨some 96, .not (.t 95), some (83, true)⟩,
        ⟨some 97, .pick (.t 83) (.t 96) (.c (.b false)), none⟩] [0, 1, 2, 3, 4, 10, 11, 12, 13, 97])
      (.cond (.t 97) (.seq (.reg none [⟨some 98, .mov (.t 0), none⟩,
          ⟨some 99, .mov (.t 1), none⟩,
          ⟨some 100, .mov (.t 2), none⟩,
          ⟨some 101, .mov (.t 13), none⟩,
          ⟨some 102, .mov (.t 4), none⟩,
          ⟨some 103, .call (.f n_slices_partitionEqualCmpFunc_api_Term) [(.t 98), (.t 99), (.t 100), (.t 101), (.t 102)], none⟩,
          ⟨some 15, .mov (.t 103), none⟩] [0, 2, 3, 4, 10, 11, 15])
        (.seq (.reg none [⟨some 104, .mov (.t 15), none⟩,
          ⟨some 1, .mov (.t 104), none⟩] [0, 1, 2, 3, 4, 10, 11])
        (.exit 1 [0, 1, 2, 3, 4, 10, 11])))
      (.skip)))
      (.seq (.reg none [⟨some 106, .mov (.t 0), none⟩,
        ⟨some 107, .mov (.t 1), none⟩,
        ⟨some 108, .mov (.t 2), none⟩,
        ⟨some 109, .mov (.t 13), none⟩,
        ⟨some 110, .mov (.t 4), none⟩,
        ⟨some 111, .call (.f n_slices_partitionCmpFunc_api_Term) [(.t 106), (.t 107), (.t 108), (.t 109), (.t 110)], none⟩,
        ⟨some 105, .mov (.t 111), none⟩,
        ⟨some 112, .extr 0 (.t 105), none⟩,
        ⟨some 113, .extr 1 (.t 105), none⟩,
        ⟨some 16, .mov (.t 112), none⟩,
        ⟨some 17, .mov (.t 113), none⟩] [0, 1, 2, 3, 4, 12, 16, 17])
      (.seq (.reg none [⟨some 114, .mov (.t 17), none⟩,
        ⟨some 11, .mov (.t 114), none⟩] [0, 1, 2, 3, 4, 11, 12, 16])
      (.seq (.reg none [⟨some 115, .mov (.t 16), none⟩,
        ⟨some 116, .mov (.t 1), none⟩,
        ⟨some 117, .bin .sub (.t 115) (.t 116), none⟩,
        ⟨some 118, .mov (.t 2), none⟩,
        ⟨some 119, .mov (.t 16), none⟩,
        ⟨some 120, .bin .sub (.t 118) (.t 119), none⟩,
        ⟨some 18, .mov (.t 117), none⟩,
        ⟨some 19, .mov (.t 120), none⟩] [0, 1, 2, 3, 4, 11, 12, 16, 18, 19])
      (.seq (.reg none [⟨some 121, .mov (.t 12), none⟩,
        ⟨some 122, .bin .quo (.t 121) (.c (.i 8)), none⟩,
        ⟨some 20, .mov (.t 122), none⟩] [0, 1, 2, 3, 4, 11, 16, 18, 19, 20])
      (.seq (.reg none [⟨some 123, .mov (.t 18), none⟩,
        ⟨some 124, .mov (.t 19), none⟩,
        ⟨some 125, .bin .lss (.t 123) (.t 124), none⟩] [0, 1, 2, 3, 4, 11, 16, 18, 19, 20, 125])
      (.cond (.t 125) (.seq (.reg none [⟨some 126, .mov (.t 18), none⟩,
          ⟨some 127, .mov (.t 20), none⟩,
          ⟨some 128, .bin .geq (.t 126) (.t 127), none⟩,
          ⟨some 10, .mov (.t 128), none⟩] [0, 1, 2, 3, 4, 10, 11, 16])
        (.seq (.reg none [⟨some 129, .mov (.t 0), none⟩,
          ⟨some 130, .mov (.t 1), none⟩,
          ⟨some 131, .mov (.t 16), none⟩,
          ⟨some 132, .mov (.t 3), none⟩,
          ⟨some 133, .mov (.t 4), none⟩,
          ⟨some 134, .call (.f n_slices_pdqsortCmpFunc_api_Term) [(.t 129), (.t 130), (.t 131), (.t 132), (.t 133)], none⟩] [0, 2, 3, 4, 10, 11, 16])
        (.reg none [⟨some 135, .mov (.t 16), none⟩,
          ⟨some 136, .bin .add (.t 135) (.c (.i 1)), none⟩,
          ⟨some 1, .mov (.t 136), none⟩] [0, 1, 2, 3, 4, 10, 11])))
      (.seq (.reg none [⟨some 137, .mov (.t 19), none⟩,
          ⟨some 138, .mov (.t 20), none⟩,
          ⟨some 139, .bin .geq (.t 137) (.t 138), none⟩,
          ⟨some 10, .mov (.t 139), none⟩] [0, 1, 2, 3, 4, 10, 11, 16])
        (.seq (.reg none [⟨some 140, .mov (.t 0), none⟩,
          ⟨some 141, .mov (.t 16), none⟩,
          ⟨some 142, .bin .add (.t 141) (.c (.i 1)), none⟩,
          ⟨some 143, .mov (.t 2), none⟩,
          ⟨some 144, .mov (.t 3), none⟩,
          ⟨some 145, .mov (.t 4), none⟩,
          ⟨some 146, .call (.f n_slices_pdqsortCmpFunc_api_Term) [(.t 140), (.t 142), (.t 143), (.t 144), (.t 145)], none⟩] [0, 1, 3, 4, 10, 11, 16])
        (.reg none [⟨some 147, .mov (.t 16), none⟩,
          ⟨some 2, .mov (.t 147), none⟩] [0, 1, 2, 3, 4, 10, 11])))))))))))))))))) [0, 1, 2, 3, 4, 10, 11]
/-- slices.pdqsortCmpFunc[truss/api.Term] -/
def ir_slices_pdqsortCmpFunc_api_Term : IF := ⟨5,
  .seq (.reg none [⟨some 10, .mov (.c (.b true)), none⟩] [0, 1, 2, 3, 4, 10])
  (.seq (.reg none [⟨some 11, .mov (.c (.b true)), none⟩] [0, 1, 2, 3, 4, 10, 11])
  (.block 0 (.loop ir_slices_pdqsortCmpFunc_api_TermL0))),
  [], 0⟩

/-- math/bits.Len -/
def ir_math_bits_Len : IF := ⟨1,
  .seq (.reg none [⟨some 2, .mov (.c (.i 0)), none⟩] [0])
  (.seq (.cond (.c (.b false)) (.seq (.reg none [⟨some 3, .mov (.t 0), none⟩,
      ⟨some 4, .conv .u32 (.t 3), none⟩,
      ⟨some 5, .call (.f n_math_bits_Len32) [(.t 4)], none⟩,
      ⟨some 2, .mov (.t 5), none⟩] [2])
    (.ret [2]))
  (.skip))
  (.seq (.reg none [⟨some 6, .mov (.t 0), none⟩,
    ⟨some 7, .call (.f n_math_bits_Len64) [(.t 6)], none⟩,
    ⟨some 2, .mov (.t 7), none⟩] [2])
  (.ret [2]))),
  [.t 2], 0⟩

def ir_check_goodL0 : IC :=
  .cut (.seq (.reg none [⟨some 29, .bin .lss (.t 28) (.t 27), none⟩] [2, 3, 26, 27, 28, 29])
    (.seq (.cond (.t 29) (.skip)
    (.exit 0 [2, 3]))
    (.seq (.block 1 (.seq (.reg none [⟨some 30, .iaddr none 10 (.t 26) (.t 28), none⟩,
        ⟨some 31, .load (some 10) (.t 30), none⟩,
        ⟨some 10, .alloc [(.s ⟨#[]⟩), (.i 0), (.i 0), (.i 0), (.sl true []), (.b false), (.i 0), (.i 0), (.i 0), (.sl true [])], none⟩,
        ⟨none, .store 10 (.t 10) (.t 31), none⟩] [2, 3, 10, 26, 27, 28])
      (.seq (.reg none [⟨some 33, .faddr 1 (.t 10), none⟩,
        ⟨some 34, .load (some 4) (.t 33), none⟩,
        ⟨some 35, .call (.f n_term_Free) [(.t 34)], none⟩,
        ⟨some 32, .mov (.t 35), none⟩,
        ⟨some 36, .extr 0 (.t 32), none⟩,
        ⟨some 37, .extr 1 (.t 32), none⟩,
        ⟨some 11, .mov (.t 36), none⟩,
        ⟨some 12, .mov (.t 37), none⟩] [2, 3, 11, 12, 26, 27, 28])
      (.seq (.reg none [⟨some 38, .mov (.t 12), none⟩,
        ⟨some 39, .bin .neq (.t 38) (.c (.i 0)), none⟩,
        ⟨some 40, .mov (.t 39), none⟩,
        ⟨some 41, .mov (.t 11), some (40, false)⟩,
        ⟨some 42, .len false (.t 41), some (40, false)⟩,
        ⟨some 43, .bin .gtr (.t 42) (.c (.i 0)), some (40, false)⟩,
        ⟨some 44, .pick (.t 40) (.c (.b true)) (.t 43), none⟩] [2, 3, 26, 27, 28, 44])
      (.cond (.t 44) (.seq (.reg none [⟨some 8, .mov (.c (.b false)), none⟩] [8])
        (.ret [8]))
      (.skip))))))
    (.reg none [⟨some 45, .bin .add (.t 28) (.c (.i 1)), none⟩,
      ⟨some 28, .mov (.t 45), none⟩] [2, 3, 26, 27, 28])))) [2, 3, 26, 27, 28]
/-- truss/check.good -/
def ir_check_good : IF := ⟨4,
  .seq (.reg none [⟨some 8, .mov (.c (.b false)), none⟩] [0, 1, 2, 3])
  (.seq (.seq (.reg none [⟨some 13, .mov (.t 0), none⟩,
    ⟨some 14, .call (.f n_sign_Check) [(.t 13)], none⟩,
    ⟨some 15, .bin .neq (.t 14) (.c (.i 0)), none⟩,
    ⟨some 16, .mov (.t 15), none⟩,
    ⟨some 17, .mov (.t 1), some (16, false)⟩,
    ⟨some 18, .len false (.t 17), some (16, false)⟩,
    ⟨some 19, .bin .gtr (.t 18) (.c (.i 80)), some (16, false)⟩,
    ⟨some 20, .pick (.t 16) (.c (.b true)) (.t 19), none⟩,
    ⟨some 21, .mov (.t 20), none⟩,
    ⟨some 22, .mov (.t 2), some (21, false)⟩,
    ⟨some 23, .len false (.t 22), some (21, false)⟩,
    ⟨some 24, .bin .gtr (.t 23) (.c (.i 30)), some (21, false)⟩,
    ⟨some 25, .pick (.t 21) (.c (.b true)) (.t 24), none⟩] [1, 2, 3, 25])
  (.cond (.t 25) (.seq (.reg none [⟨some 8, .mov (.c (.b false)), none⟩] [8])
    (.ret [8]))
  (.skip)))
  (.seq (.seq (.reg none [⟨some 26, .mov (.t 1), none⟩,
    ⟨some 27, .len false (.t 26), none⟩,
    ⟨some 28, .mov (.c (.i 0)), none⟩] [2, 3, 26, 27, 28])
  (.block 0 (.loop ir_check_goodL0)))
  (.seq (.reg none [⟨some 46, .mov (.t 2), none⟩,
    ⟨some 47, .mov (.t 3), none⟩,
    ⟨some 48, .bslice 1 2 [(.sl true [])] [(0, (.t 46)), (1, (.t 47))], none⟩,
    ⟨some 49, .call (.f n_slices_Concat_of_Term_api_Term) [(.t 48)], none⟩,
    ⟨some 50, .call (.f n_slices_ContainsFunc_of_Term_api_Term) [(.t 49), (.c (.fn (.func n_check_good_1) []))], none⟩,
    ⟨some 51, .not (.t 50), none⟩,
    ⟨some 8, .mov (.t 51), none⟩] [8])
  (.ret [8])))),
  [.t 8], 0⟩

/-- truss/check.over -/
def ir_check_over : IF := ⟨2,
  .seq (.reg none [⟨some 4, .alloc [(.k .nilIface), (.sl true [])], none⟩] [0, 1, 4])
  (.seq (.reg none [⟨some 5, .mov (.t 0), none⟩,
    ⟨some 6, .mov (.t 1), none⟩,
    ⟨some 7, .build [(.sl true []), (.sl true [])] [(0, 1, (.t 5)), (1, 1, (.t 6))], none⟩,
    ⟨some 8, .miface 306 (.t 7), none⟩,
    ⟨some 9, .mov (.t 0), none⟩,
    ⟨some 10, .build [(.k .nilIface), (.sl true [])] [(0, 1, (.t 8)), (1, 1, (.t 9))], none⟩,
    ⟨none, .store 2 (.t 4) (.t 10), none⟩] [4])
  (.ret [4])),
  [.cell 4 (some 2)], 0⟩

/-- (truss/check.kernel).isObject -/
def ir_check_kernel_isObject : IF := ⟨4,
  .seq (.reg none [⟨some 4, .box 2 (.t 0), none⟩,
    ⟨some 6, .box 4 (.t 2), none⟩,
    ⟨some 7, .box 4 (.t 3), none⟩,
    ⟨some 8, .mov (.c (.i 0)), none⟩] [1, 4, 6, 7])
  (.ps [.ownAt 6 3 4, .ownAt 7 3 4] (.seq (.reg none [⟨some 9, .mov (.c (.i 3)), none⟩] [1, 4, 6, 7, 9])
  (.seq (.seq (.reg none [⟨some 14, .faddr 0 (.t 7), none⟩,
    ⟨some 15, .load none (.t 14), none⟩] [1, 4, 6, 7, 9, 15])
  (.block 0 (.seq (.reg none [⟨some 17, .bin .eql (.t 15) (.c (.i 2)), none⟩,
      ⟨some 16, .mov (.t 17), none⟩] [1, 4, 6, 7, 9, 15, 16])
    (.cond (.t 16) (.skip)
    (.seq (.reg none [⟨some 19, .bin .eql (.t 15) (.c (.i 4)), none⟩,
        ⟨some 18, .mov (.t 19), none⟩] [1, 4, 6, 7, 18])
      (.cond (.t 18) (.reg none [⟨some 9, .mov (.c (.i 4)), none⟩] [1, 4, 6, 7, 9])
      (.seq (.reg none [⟨some 8, .mov (.c (.i 22)), none⟩] [8])
        (.ret [8]))))))))
  (.seq (.block 1 (.seq (.reg none [⟨some 21, .faddr 0 (.t 6), none⟩,
      ⟨some 22, .load none (.t 21), none⟩,
      ⟨some 23, .bin .neq (.t 22) (.c (.i 3)), none⟩,
      ⟨some 24, .mov (.t 23), none⟩,
      ⟨some 25, .faddr 0 (.t 6), some (24, true)⟩,
      ⟨some 26, .load none (.t 25), some (24, true)⟩,
      ⟨some 27, .bin .neq (.t 26) (.c (.i 4)), some (24, true)⟩,
      ⟨some 28, .pick (.t 24) (.t 27) (.c (.b false)), none⟩,
      ⟨some 20, .mov (.t 28), none⟩] [1, 4, 6, 7, 9, 20])
    (.cond (.t 20) (.seq (.reg none [⟨some 8, .mov (.c (.i 22)), none⟩] [8])
      (.ret [8]))
    (.seq (.reg none [⟨some 30, .faddr 0 (.t 6), none⟩,
        ⟨some 31, .load none (.t 30), none⟩,
        ⟨some 32, .mov (.t 9), none⟩,
        ⟨some 33, .bin .neq (.t 31) (.t 32), none⟩,
        ⟨some 29, .mov (.t 33), none⟩] [1, 4, 6, 7, 9, 29])
      (.cond (.t 29) (.seq (.reg none [⟨some 8, .mov (.c (.i 23)), none⟩] [8])
        (.ret [8]))
      (.skip))))))
  (.seq (.seq (.reg none [⟨some 34, .mov (.t 9), none⟩,
    ⟨some 35, .bin .eql (.t 34) (.c (.i 3)), none⟩] [1, 4, 6, 7, 35])
  (.cond (.t 35) (.seq (.reg none [⟨some 37, .mov (.t 1), none⟩,
      ⟨some 38, .faddr 3 (.t 7), none⟩,
      ⟨some 39, .load none (.t 38), none⟩,
      ⟨some 40, .iaddr none 4 (.t 39) (.c (.i 0)), none⟩,
      ⟨some 41, .load (some 4) (.t 40), none⟩,
      ⟨some 42, .call (.f n_check_deeper) [(.t 37), (.t 41)], none⟩,
      ⟨some 36, .mov (.t 42), none⟩,
      ⟨some 43, .extr 0 (.t 36), none⟩,
      ⟨some 44, .extr 1 (.t 36), none⟩,
      ⟨some 10, .mov (.t 43), none⟩,
      ⟨some 11, .mov (.t 44), none⟩] [4, 6, 7, 10, 11])
    (.seq (.seq (.reg none [⟨some 45, .mov (.t 11), none⟩,
      ⟨some 46, .bin .neq (.t 45) (.c (.i 0)), none⟩] [4, 6, 7, 10, 11, 46])
    (.cond (.t 46) (.seq (.reg none [⟨some 47, .mov (.t 11), none⟩,
        ⟨some 8, .mov (.t 47), none⟩] [8])
      (.ret [8]))
    (.skip)))
    (.seq (.reg (some [(0, none), (1, none), (2, none), (3, none), (4, none), (5, none), (6, none), (7, none), (8, none), (9, none), (10, none), (11, none)]) [⟨some 48, .load (some 2) (.t 4), none⟩,
      ⟨some 49, .mov (.t 10), none⟩,
      ⟨some 50, .faddr 3 (.t 6), none⟩,
      ⟨some 51, .load none (.t 50), none⟩,
      ⟨some 52, .iaddr none 4 (.t 51) (.c (.i 0)), none⟩,
      ⟨some 53, .load (some 4) (.t 52), none⟩,
      ⟨some 54, .faddr 3 (.t 7), none⟩,
      ⟨some 55, .load none (.t 54), none⟩,
      ⟨some 56, .iaddr none 4 (.t 55) (.c (.i 1)), none⟩,
      ⟨some 57, .load (some 4) (.t 56), none⟩,
      ⟨some 58, .call (.f n_check_kernel_isObject) [(.t 48), (.t 49), (.t 53), (.t 57)], none⟩,
      ⟨some 8, .mov (.t 58), none⟩] [8])
    (.ret [8]))))
  (.skip)))
  (.seq (.reg none [⟨some 60, .load (some 2) (.t 4), none⟩,
    ⟨some 61, .mov (.t 1), none⟩,
    ⟨some 62, .load (some 4) (.t 6), none⟩,
    ⟨some 63, .call (.f n_check_kernel_find) [(.t 60), (.t 61), (.t 62)], none⟩,
    ⟨some 59, .mov (.t 63), none⟩,
    ⟨some 64, .extr 0 (.t 59), none⟩,
    ⟨some 65, .extr 1 (.t 59), none⟩,
    ⟨some 12, .alloc [(.i 0), (.i 0), (.i 0), (.sl true [])], none⟩,
    ⟨none, .store 4 (.t 12) (.t 64), none⟩,
    ⟨some 13, .mov (.t 65), none⟩] [7, 12, 13])
  (.ps [.ownAt 12 3 4] (.seq (.seq (.reg none [⟨some 66, .mov (.t 13), none⟩,
    ⟨some 67, .bin .eql (.t 66) (.c (.i 0)), none⟩,
    ⟨some 68, .mov (.t 67), none⟩,
    ⟨some 69, .load (some 4) (.t 7), some (68, true)⟩,
    ⟨some 70, .load (some 4) (.t 12), some (68, true)⟩,
    ⟨some 71, .call (.f n_term_Same) [(.t 69), (.t 70)], some (68, true)⟩,
    ⟨some 72, .not (.t 71), some (68, true)⟩,
    ⟨some 73, .pick (.t 68) (.t 72) (.c (.b false)), none⟩] [13, 73])
  (.cond (.t 73) (.seq (.reg none [⟨some 8, .mov (.c (.i 24)), none⟩] [8])
    (.ret [8]))
  (.skip)))
  (.seq (.reg none [⟨some 74, .mov (.t 13), none⟩,
    ⟨some 8, .mov (.t 74), none⟩] [8])
  (.ret [8])))))))))),
  [.t 8], 0⟩

/-- cmp.isNaN[int] -/
def ir_cmp_isNaN_int : IF := ⟨1,
  .seq (.reg none [⟨some 2, .mov (.c (.b false)), none⟩] [0])
  (.seq (.reg none [⟨some 3, .mov (.t 0), none⟩,
    ⟨some 4, .mov (.t 0), none⟩,
    ⟨some 5, .bin .neq (.t 3) (.t 4), none⟩,
    ⟨some 2, .mov (.t 5), none⟩] [2])
  (.ret [2])),
  [.t 2], 0⟩

/-- truss/term.Copy -/
def ir_term_Copy : IF := ⟨1,
  .seq (.reg none [⟨some 1, .box 4 (.t 0), none⟩,
    ⟨some 2, .alloc [(.i 0), (.i 0), (.i 0), (.sl true [])], none⟩] [1, 2])
  (.ps [.ownAt 1 3 4, .ownAt 2 3 4] (.seq (.reg none [⟨some 3, .load (some 4) (.t 1), none⟩,
    ⟨some 4, .call (.f n_term_Map) [(.t 3), (.c (.i 0)), (.c (.fn (.func n_term_Copy_1) []))], none⟩,
    ⟨none, .store 4 (.t 2) (.t 4), none⟩] [2])
  (.ret [2]))),
  [.cell 2 (some 4)], 0⟩

/-- truss/lexis.IsSmall -/
def ir_lexis_IsSmall : IF := ⟨1,
  .seq (.reg none [⟨some 2, .mov (.c (.b false)), none⟩] [0])
  (.seq (.reg none [⟨some 3, .mov (.t 0), none⟩,
    ⟨some 4, .call (.f n_lexis_name) [(.t 3), (.c (.fn (.func n_lexis_small) []))], none⟩,
    ⟨some 2, .mov (.t 4), none⟩] [2])
  (.ret [2])),
  [.t 2], 0⟩

/-- strconv.Itoa -/
def ir_strconv_Itoa : IF := ⟨1,
  .seq (.reg none [⟨some 2, .mov (.c (.s ⟨#[]⟩)), none⟩] [0])
  (.seq (.reg none [⟨some 3, .mov (.t 0), none⟩,
    ⟨some 4, .call (.f n_internal_strconv_Itoa) [(.t 3)], none⟩,
    ⟨some 2, .mov (.t 4), none⟩] [2])
  (.ret [2])),
  [.t 2], 0⟩

def ir_sign_each_1L0 : IC :=
  .cut (.seq (.reg none [⟨some 8, .bin .lss (.t 7) (.t 6), none⟩] [0, 1, 5, 6, 7, 8])
    (.seq (.cond (.t 8) (.skip)
    (.exit 0 []))
    (.seq (.block 1 (.seq (.reg none [⟨some 9, .mov (.t 7), none⟩,
        ⟨some 10, .iaddr none 6 (.t 5) (.t 7), none⟩,
        ⟨some 11, .load (some 6) (.t 10), none⟩,
        ⟨some 4, .alloc [(.s ⟨#[]⟩), (.i 0), (.i 0), (.i 0), (.sl true []), (.i 0)], none⟩,
        ⟨some 3, .mov (.t 9), none⟩,
        ⟨none, .store 6 (.t 4) (.t 11), none⟩] [0, 1, 3, 4, 5, 6, 7])
      (.seq (.reg (some [(0, none), (1, none), (2, none), (3, none), (4, none), (5, none), (6, none)]) [⟨some 12, .mov (.t 0), none⟩,
        ⟨some 13, .load none (.t 1), none⟩,
        ⟨some 14, .mov (.t 3), none⟩,
        ⟨some 15, .slice 6 (.t 13) none (some (.t 14)) none, none⟩,
        ⟨some 16, .load (some 6) (.t 4), none⟩,
        ⟨some 17, .call (.v (.t 12)) [(.t 15), (.t 16)], none⟩,
        ⟨some 18, .not (.t 17), none⟩] [0, 1, 5, 6, 7, 18])
      (.cond (.t 18) (.ret [])
      (.skip)))))
    (.reg none [⟨some 19, .bin .add (.t 7) (.c (.i 1)), none⟩,
      ⟨some 7, .mov (.t 19), none⟩] [0, 1, 5, 6, 7])))) [0, 1, 5, 6, 7]
/-- truss/sign.each$1 -/
def ir_sign_each_1 : IF := ⟨2,
  .seq (.reg none [⟨some 5, .load none (.t 1), none⟩,
    ⟨some 6, .len false (.t 5), none⟩,
    ⟨some 7, .mov (.c (.i 0)), none⟩] [0, 1, 5, 6, 7])
  (.block 0 (.loop ir_sign_each_1L0)),
  [], 0⟩

/-- truss/sign.name -/
def ir_sign_name : IF := ⟨1,
  .seq (.reg none [⟨some 2, .mov (.c (.b false)), none⟩] [0])
  (.seq (.reg none [⟨some 3, .mov (.t 0), none⟩,
    ⟨some 4, .call (.f n_lexis_IsSmall) [(.t 3)], none⟩,
    ⟨some 5, .mov (.t 4), none⟩,
    ⟨some 6, .mov (.t 0), some (5, true)⟩,
    ⟨some 7, .bin .neq (.t 6) (.c (.s ⟨#[116, 121, 112, 101]⟩)), some (5, true)⟩,
    ⟨some 8, .pick (.t 5) (.t 7) (.c (.b false)), none⟩,
    ⟨some 2, .mov (.t 8), none⟩] [2])
  (.ret [2])),
  [.t 2], 0⟩

def ir_term_DomainsL0 : IC :=
  .cut (.seq (.seq (.reg none [⟨some 5, .faddr 0 (.t 1), none⟩,
      ⟨some 6, .load none (.t 5), none⟩,
      ⟨some 7, .bin .eql (.t 6) (.c (.i 2)), none⟩] [1, 3, 4, 7])
    (.cond (.t 7) (.skip)
    (.exit 0 [1, 3, 4])))
    (.block 1 (.seq (.reg none [⟨some 8, .mov (.t 4), none⟩,
        ⟨some 9, .faddr 3 (.t 1), none⟩,
        ⟨some 10, .load none (.t 9), none⟩,
        ⟨some 11, .iaddr none 4 (.t 10) (.c (.i 0)), none⟩,
        ⟨some 12, .load (some 4) (.t 11), none⟩,
        ⟨some 13, .bslice 4 1 [(.i 0), (.i 0), (.i 0), (.sl true [])] [(0, (.t 12))], none⟩,
        ⟨some 14, .app 4 (.t 8) (.t 13), none⟩,
        ⟨some 4, .mov (.t 14), none⟩] [1, 3, 4])
      (.reg none [⟨some 15, .faddr 3 (.t 1), none⟩,
        ⟨some 16, .load none (.t 15), none⟩,
        ⟨some 17, .iaddr none 4 (.t 16) (.c (.i 1)), none⟩,
        ⟨some 18, .load (some 4) (.t 17), none⟩,
        ⟨none, .store 4 (.t 1) (.t 18), none⟩] [1, 3, 4])))) [1, 3, 4]
/-- truss/term.Domains -/
def ir_term_Domains : IF := ⟨1,
  .seq (.reg none [⟨some 1, .box 4 (.t 0), none⟩,
    ⟨some 2, .mov (.c (.sl true [])), none⟩,
    ⟨some 3, .alloc [(.i 0), (.i 0), (.i 0), (.sl true [])], none⟩] [1, 3])
  (.ps [.ownAt 1 3 4, .ownAt 3 3 4] (.seq (.reg none [⟨some 4, .mov (.c (.sl true [])), none⟩] [1, 3, 4])
  (.ps [.own 4 4] (.seq (.block 0 (.loop ir_term_DomainsL0))
  (.seq (.reg (some [(0, none), (1, none), (2, none), (3, none)]) [⟨some 19, .mov (.t 4), none⟩,
    ⟨some 20, .load (some 4) (.t 1), none⟩,
    ⟨some 2, .mov (.t 19), none⟩,
    ⟨none, .store 4 (.t 3) (.t 20), none⟩] [2, 3])
  (.ret [2, 3])))))),
  [.t 2, .cell 3 (some 4)], 0⟩

def ir_term_EachL0 : IC :=
  .cut (.seq (.reg none [⟨some 16, .bin .lss (.t 15) (.t 14), none⟩] [1, 2, 3, 13, 14, 15, 16])
    (.seq (.cond (.t 16) (.skip)
    (.exit 0 []))
    (.seq (.block 1 (.seq (.reg none [⟨some 17, .mov (.t 15), none⟩,
        ⟨some 18, .iaddr none 4 (.t 13) (.t 15), none⟩,
        ⟨some 19, .load (some 4) (.t 18), none⟩,
        ⟨some 7, .alloc [(.i 0), (.i 0), (.i 0), (.sl true [])], none⟩,
        ⟨some 6, .mov (.t 17), none⟩,
        ⟨none, .store 4 (.t 7) (.t 19), none⟩] [1, 2, 3, 6, 7, 13, 14, 15])
      (.ps [.ownAt 7 3 4] (.reg (some [(0, none), (1, none), (2, none), (3, none), (4, none), (5, none), (6, none), (7, none)]) [⟨some 20, .load (some 4) (.t 7), none⟩,
        ⟨some 21, .mov (.t 1), none⟩,
        ⟨some 22, .load (some 4) (.t 3), none⟩,
        ⟨some 23, .mov (.t 6), none⟩,
        ⟨some 24, .callq (.f n_term_Under) [(.t 22), (.t 23)], none⟩,
        ⟨some 25, .bin .add (.t 21) (.t 24), none⟩,
        ⟨some 26, .mov (.t 2), none⟩,
        ⟨some 27, .call (.f n_term_Each) [(.t 20), (.t 25), (.t 26)], none⟩] [1, 2, 3, 13, 14, 15]))))
    (.reg none [⟨some 28, .bin .add (.t 15) (.c (.i 1)), none⟩,
      ⟨some 15, .mov (.t 28), none⟩] [1, 2, 3, 13, 14, 15])))) [1, 2, 3, 13, 14, 15]
/-- truss/term.Each -/
def ir_term_Each : IF := ⟨3,
  .seq (.reg none [⟨some 3, .box 4 (.t 0), none⟩] [1, 2, 3])
  (.ps [.ownAt 3 3 4] (.seq (.reg none [⟨some 8, .mov (.t 2), none⟩,
    ⟨some 9, .load (some 4) (.t 3), none⟩,
    ⟨some 10, .mov (.t 1), none⟩,
    ⟨some 11, .call (.v (.t 8)) [(.t 9), (.t 10)], none⟩] [1, 2, 3])
  (.seq (.reg none [⟨some 12, .faddr 3 (.t 3), none⟩,
    ⟨some 13, .load none (.t 12), none⟩,
    ⟨some 14, .len false (.t 13), none⟩,
    ⟨some 15, .mov (.c (.i 0)), none⟩] [1, 2, 3, 13, 14, 15])
  (.block 0 (.loop ir_term_EachL0))))),
  [], 0⟩

/-- truss/sign.formed$1 -/
def ir_sign_formed_1 : IF := ⟨4,
  .seq (.reg none [⟨some 4, .box 4 (.t 0), none⟩] [1, 2, 3, 4])
  (.ps [.ownAt 4 3 4] (.seq (.seq (.reg none [⟨some 6, .faddr 0 (.t 4), none⟩,
    ⟨some 7, .load none (.t 6), none⟩,
    ⟨some 8, .bin .neq (.t 7) (.c (.i 4)), none⟩] [1, 2, 3, 4, 8])
  (.cond (.t 8) (.ret [])
  (.skip)))
  (.reg none [⟨some 9, .load none (.t 2), none⟩,
    ⟨some 10, .mov (.t 9), none⟩,
    ⟨some 11, .faddr 1 (.t 4), some (10, true)⟩,
    ⟨some 12, .load none (.t 11), some (10, true)⟩,
    ⟨some 13, .bin .neq (.t 12) (.c (.i 3)), some (10, true)⟩,
    ⟨some 14, .pick (.t 10) (.t 13) (.c (.b false)), none⟩,
    ⟨some 15, .mov (.t 14), none⟩,
    ⟨some 16, .faddr 1 (.t 4), some (15, true)⟩,
    ⟨some 17, .load none (.t 16), some (15, true)⟩,
    ⟨some 18, .bin .neq (.t 17) (.c (.i 1)), some (15, true)⟩,
    ⟨some 19, .mov (.t 18), some (15, true)⟩,
    ⟨some 20, .faddr 2 (.t 4), some (19, false)⟩,
    ⟨some 21, .load none (.t 20), some (19, false)⟩,
    ⟨some 22, .mov (.t 1), some (19, false)⟩,
    ⟨some 23, .bin .lss (.t 21) (.t 22), some (19, false)⟩,
    ⟨some 24, .pick (.t 19) (.c (.b true)) (.t 23), some (15, true)⟩,
    ⟨some 25, .pick (.t 15) (.t 24) (.c (.b false)), none⟩,
    ⟨some 26, .mov (.t 25), none⟩,
    ⟨some 27, .faddr 1 (.t 4), some (26, true)⟩,
    ⟨some 28, .load none (.t 27), some (26, true)⟩,
    ⟨some 29, .bin .neq (.t 28) (.c (.i 2)), some (26, true)⟩,
    ⟨some 30, .mov (.t 29), some (26, true)⟩,
    ⟨some 31, .faddr 2 (.t 4), some (30, false)⟩,
    ⟨some 32, .load none (.t 31), some (30, false)⟩,
    ⟨some 33, .load none (.t 3), some (30, false)⟩,
    ⟨some 34, .len false (.t 33), some (30, false)⟩,
    ⟨some 35, .bin .lss (.t 32) (.t 34), some (30, false)⟩,
    ⟨some 36, .pick (.t 30) (.c (.b true)) (.t 35), some (26, true)⟩,
    ⟨some 37, .pick (.t 26) (.t 36) (.c (.b false)), none⟩,
    ⟨none, .store 1 (.t 2) (.t 37), none⟩] []))),
  [], 0⟩

/-- truss/sign.kind -/
def ir_sign_kind : IF := ⟨1,
  .seq (.reg none [⟨some 1, .box 4 (.t 0), none⟩,
    ⟨some 2, .mov (.c (.b false)), none⟩] [1])
  (.ps [.ownAt 1 3 4] (.seq (.reg none [⟨some 6, .load (some 4) (.t 1), none⟩,
    ⟨some 7, .call (.f n_term_Domains) [(.t 6)], none⟩,
    ⟨some 5, .mov (.t 7), none⟩,
    ⟨some 8, .extr 0 (.t 5), none⟩,
    ⟨some 9, .extr 1 (.t 5), none⟩,
    ⟨some 4, .alloc [(.i 0), (.i 0), (.i 0), (.sl true [])], none⟩,
    ⟨some 3, .mov (.t 8), none⟩,
    ⟨none, .store 4 (.t 4) (.t 9), none⟩] [4])
  (.ps [.ownAt 4 3 4] (.seq (.reg none [⟨some 10, .faddr 0 (.t 4), none⟩,
    ⟨some 11, .load none (.t 10), none⟩,
    ⟨some 12, .bin .eql (.t 11) (.c (.i 1)), none⟩,
    ⟨some 2, .mov (.t 12), none⟩] [2])
  (.ret [2]))))),
  [.t 2], 0⟩

/-- truss/sign.target -/
def ir_sign_target : IF := ⟨1,
  .seq (.reg none [⟨some 1, .box 4 (.t 0), none⟩,
    ⟨some 2, .mov (.c (.i 0)), none⟩,
    ⟨some 3, .mov (.c (.b false)), none⟩] [1])
  (.ps [.ownAt 1 3 4] (.seq (.reg none [⟨some 7, .load (some 4) (.t 1), none⟩,
    ⟨some 8, .call (.f n_term_Domains) [(.t 7)], none⟩,
    ⟨some 6, .mov (.t 8), none⟩,
    ⟨some 9, .extr 0 (.t 6), none⟩,
    ⟨some 10, .extr 1 (.t 6), none⟩,
    ⟨some 5, .alloc [(.i 0), (.i 0), (.i 0), (.sl true [])], none⟩,
    ⟨some 4, .mov (.t 9), none⟩,
    ⟨none, .store 4 (.t 5) (.t 10), none⟩] [5])
  (.ps [.ownAt 5 3 4] (.seq (.reg (some [(0, none), (1, none), (2, none), (3, none), (4, none), (5, none), (6, none), (7, none), (8, none), (9, none), (10, none), (11, none)]) [⟨some 11, .faddr 2 (.t 5), none⟩,
    ⟨some 12, .load none (.t 11), none⟩,
    ⟨some 13, .faddr 0 (.t 5), none⟩,
    ⟨some 14, .load none (.t 13), none⟩,
    ⟨some 15, .bin .eql (.t 14) (.c (.i 4)), none⟩,
    ⟨some 16, .mov (.t 15), none⟩,
    ⟨some 17, .faddr 1 (.t 5), some (16, true)⟩,
    ⟨some 18, .load none (.t 17), some (16, true)⟩,
    ⟨some 19, .bin .eql (.t 18) (.c (.i 2)), some (16, true)⟩,
    ⟨some 20, .pick (.t 16) (.t 19) (.c (.b false)), none⟩,
    ⟨some 2, .mov (.t 12), none⟩,
    ⟨some 3, .mov (.t 20), none⟩] [2, 3])
  (.ret [2, 3]))))),
  [.t 2, .t 3], 0⟩

/-- truss/sign.Family -/
def ir_sign_Family : IF := ⟨2,
  .seq (.reg none [⟨some 4, .mov (.c (.b false)), none⟩] [0, 1])
  (.seq (.reg none [⟨some 5, .mov (.t 0), none⟩,
    ⟨some 6, .mov (.t 1), none⟩,
    ⟨some 7, .iaddr none 6 (.t 5) (.t 6), none⟩,
    ⟨some 8, .faddr 1 (.t 7), none⟩,
    ⟨some 9, .load (some 4) (.t 8), none⟩,
    ⟨some 10, .call (.f n_sign_kind) [(.t 9)], none⟩,
    ⟨some 4, .mov (.t 10), none⟩] [4])
  (.ret [4])),
  [.t 4], 0⟩

/-- truss/check.class -/
def ir_check_class : IF := ⟨2,
  .seq (.reg none [⟨some 3, .box 4 (.t 1), none⟩,
    ⟨some 4, .mov (.c (.i 0)), none⟩] [0, 3])
  (.ps [.ownAt 3 3 4] (.seq (.reg none [⟨some 8, .mov (.t 0), none⟩,
    ⟨some 9, .call (.f n_check_over) [(.t 8), (.c (.sl true []))], none⟩,
    ⟨some 5, .alloc [(.k .nilIface), (.sl true [])], none⟩,
    ⟨none, .store 2 (.t 5) (.t 9), none⟩] [3, 5])
  (.seq (.seq (.reg none [⟨some 11, .load (some 4) (.t 3), none⟩,
    ⟨some 12, .call (.f n_term_Domains) [(.t 11)], none⟩,
    ⟨some 10, .mov (.t 12), none⟩,
    ⟨some 13, .extr 0 (.t 10), none⟩,
    ⟨some 14, .extr 1 (.t 10), none⟩,
    ⟨some 7, .alloc [(.i 0), (.i 0), (.i 0), (.sl true [])], none⟩,
    ⟨some 6, .mov (.t 13), none⟩,
    ⟨none, .store 4 (.t 7) (.t 14), none⟩] [3, 5, 7])
  (.ps [.ownAt 7 3 4] (.seq (.reg none [⟨some 15, .faddr 0 (.t 7), none⟩,
    ⟨some 16, .load none (.t 15), none⟩,
    ⟨some 17, .bin .eql (.t 16) (.c (.i 1)), none⟩] [3, 5, 17])
  (.cond (.t 17) (.seq (.reg none [⟨some 18, .load (some 2) (.t 5), none⟩,
      ⟨some 19, .load (some 4) (.t 3), none⟩,
      ⟨some 20, .call (.f n_check_kernel_isKind) [(.t 18), (.c (.sl true [])), (.t 19)], none⟩,
      ⟨some 4, .mov (.t 20), none⟩] [4])
    (.ret [4]))
  (.skip)))))
  (.seq (.reg none [⟨some 21, .load (some 2) (.t 5), none⟩,
    ⟨some 22, .load (some 4) (.t 3), none⟩,
    ⟨some 23, .call (.f n_check_kernel_isType) [(.t 21), (.c (.sl true [])), (.t 22)], none⟩,
    ⟨some 4, .mov (.t 23), none⟩] [4])
  (.ret [4]))))),
  [.t 4], 0⟩

/-- (truss/check.kernel).isType -/
def ir_check_kernel_isType : IF := ⟨3,
  .seq (.reg none [⟨some 3, .box 2 (.t 0), none⟩,
    ⟨some 5, .box 4 (.t 2), none⟩,
    ⟨some 6, .mov (.c (.i 0)), none⟩] [1, 3, 5])
  (.ps [.ownAt 5 3 4] (.seq (.block 0 (.seq (.reg none [⟨some 10, .faddr 0 (.t 5), none⟩,
      ⟨some 11, .load none (.t 10), none⟩,
      ⟨some 12, .bin .eql (.t 11) (.c (.i 2)), none⟩,
      ⟨some 9, .mov (.t 12), none⟩] [1, 3, 5, 9])
    (.cond (.t 9) (.seq (.reg none [⟨some 13, .load (some 2) (.t 3), none⟩,
        ⟨some 14, .mov (.t 1), none⟩,
        ⟨some 15, .load (some 4) (.t 5), none⟩,
        ⟨some 16, .load (some 2) (.t 3), none⟩,
        ⟨some 17, .mbm n_check_kernel_isType [(.t 16)], none⟩,
        ⟨some 18, .call (.f n_check_kernel_pi) [(.t 13), (.t 14), (.t 15), (.t 17)], none⟩,
        ⟨some 6, .mov (.t 18), none⟩] [6])
      (.ret [6]))
    (.seq (.reg none [⟨some 20, .faddr 0 (.t 5), none⟩,
        ⟨some 21, .load none (.t 20), none⟩,
        ⟨some 22, .bin .neq (.t 21) (.c (.i 4)), none⟩,
        ⟨some 23, .mov (.t 22), none⟩,
        ⟨some 24, .faddr 1 (.t 5), some (23, false)⟩,
        ⟨some 25, .load none (.t 24), some (23, false)⟩,
        ⟨some 26, .bin .neq (.t 25) (.c (.i 2)), some (23, false)⟩,
        ⟨some 27, .pick (.t 23) (.c (.b true)) (.t 26), none⟩,
        ⟨some 19, .mov (.t 27), none⟩] [1, 3, 5, 19])
      (.cond (.t 19) (.seq (.reg none [⟨some 6, .mov (.c (.i 22)), none⟩] [6])
        (.ret [6]))
      (.seq (.reg none [⟨some 29, .faddr 2 (.t 5), none⟩,
          ⟨some 30, .load none (.t 29), none⟩,
          ⟨some 31, .faddr 1 (.t 3), none⟩,
          ⟨some 32, .load none (.t 31), none⟩,
          ⟨some 33, .len false (.t 32), none⟩,
          ⟨some 34, .bin .geq (.t 30) (.t 33), none⟩,
          ⟨some 28, .mov (.t 34), none⟩] [1, 3, 5, 28])
        (.cond (.t 28) (.seq (.reg none [⟨some 6, .mov (.c (.i 27)), none⟩] [6])
          (.ret [6]))
        (.seq (.reg none [⟨some 36, .faddr 1 (.t 3), none⟩,
            ⟨some 37, .load none (.t 36), none⟩,
            ⟨some 38, .faddr 2 (.t 5), none⟩,
            ⟨some 39, .load none (.t 38), none⟩,
            ⟨some 40, .call (.f n_sign_Family) [(.t 37), (.t 39)], none⟩,
            ⟨some 41, .not (.t 40), none⟩,
            ⟨some 35, .mov (.t 41), none⟩] [1, 3, 5, 35])
          (.cond (.t 35) (.seq (.reg none [⟨some 6, .mov (.c (.i 22)), none⟩] [6])
            (.ret [6]))
          (.skip))))))))))
  (.seq (.reg (some [(0, none), (1, none), (2, none), (3, none), (4, none), (5, none), (6, none), (7, none), (8, none), (9, none), (10, none), (11, none), (12, none), (13, none), (14, none), (16, (some 15)), (17, none)]) [⟨some 43, .load (some 2) (.t 3), none⟩,
    ⟨some 44, .mov (.t 1), none⟩,
    ⟨some 45, .faddr 3 (.t 5), none⟩,
    ⟨some 46, .load none (.t 45), none⟩,
    ⟨some 47, .faddr 1 (.t 3), none⟩,
    ⟨some 48, .load none (.t 47), none⟩,
    ⟨some 49, .faddr 2 (.t 5), none⟩,
    ⟨some 50, .load none (.t 49), none⟩,
    ⟨some 51, .iaddr none 6 (.t 48) (.t 50), none⟩,
    ⟨some 52, .faddr 1 (.t 51), none⟩,
    ⟨some 53, .load (some 4) (.t 52), none⟩,
    ⟨some 54, .call (.f n_check_kernel_fit) [(.t 43), (.t 44), (.t 46), (.t 53)], none⟩,
    ⟨some 42, .mov (.t 54), none⟩,
    ⟨some 55, .extr 0 (.t 42), none⟩,
    ⟨some 56, .extr 1 (.t 42), none⟩,
    ⟨some 7, .box 4 (.t 55), none⟩,
    ⟨some 8, .mov (.t 56), none⟩] [7, 8])
  (.ps [.ownAt 7 3 4] (.seq (.seq (.reg none [⟨some 57, .mov (.t 8), none⟩,
    ⟨some 58, .bin .eql (.t 57) (.c (.i 0)), none⟩,
    ⟨some 59, .mov (.t 58), none⟩,
    ⟨some 60, .faddr 0 (.t 7), some (59, true)⟩,
    ⟨some 61, .load none (.t 60), some (59, true)⟩,
    ⟨some 62, .bin .neq (.t 61) (.c (.i 1)), some (59, true)⟩,
    ⟨some 63, .pick (.t 59) (.t 62) (.c (.b false)), none⟩] [8, 63])
  (.cond (.t 63) (.seq (.reg none [⟨some 6, .mov (.c (.i 23)), none⟩] [6])
    (.ret [6]))
  (.skip)))
  (.seq (.reg none [⟨some 64, .mov (.t 8), none⟩,
    ⟨some 6, .mov (.t 64), none⟩] [6])
  (.ret [6]))))))),
  [.t 6], 0⟩

def ir_term_simpleL0 : IC :=
  .cut (.seq (.reg none [⟨some 31, .bin .lss (.t 30) (.t 29), none⟩] [2, 6, 28, 29, 30, 31])
    (.seq (.cond (.t 31) (.skip)
    (.exit 0 [2, 6]))
    (.seq (.block 1 (.seq (.reg none [⟨some 32, .iaddr none 4 (.t 28) (.t 30), none⟩,
        ⟨some 33, .load (some 4) (.t 32), none⟩,
        ⟨some 8, .alloc [(.i 0), (.i 0), (.i 0), (.sl true [])], none⟩,
        ⟨none, .store 4 (.t 8) (.t 33), none⟩] [2, 6, 8, 28, 29, 30])
      (.ps [.ownAt 8 3 4] (.seq (.reg none [⟨some 35, .load (some 4) (.t 8), none⟩,
        ⟨some 36, .call (.f n_term_simple) [(.t 35)], none⟩,
        ⟨some 34, .mov (.t 36), none⟩,
        ⟨some 37, .extr 0 (.t 34), none⟩,
        ⟨some 38, .extr 1 (.t 34), none⟩,
        ⟨some 9, .alloc [(.sl true []), (.i 0)], none⟩,
        ⟨none, .store 2 (.t 9) (.t 37), none⟩,
        ⟨some 10, .mov (.t 38), none⟩] [2, 6, 9, 10, 28, 29, 30])
      (.ps [.ownAt 9 0 2] (.seq (.seq (.reg none [⟨some 39, .mov (.t 10), none⟩,
        ⟨some 40, .bin .neq (.t 39) (.c (.i 0)), none⟩] [2, 6, 9, 10, 28, 29, 30, 40])
      (.cond (.t 40) (.seq (.reg none [⟨some 41, .build [(.sl true []), (.i 0)] [], none⟩,
          ⟨some 42, .mov (.t 10), none⟩,
          ⟨none, .store 2 (.t 2) (.t 41), none⟩,
          ⟨some 3, .mov (.t 42), none⟩] [2, 3])
        (.ret [2, 3]))
      (.skip)))
      (.reg none [⟨some 43, .faddr 0 (.t 6), none⟩,
        ⟨some 44, .load none (.t 43), none⟩,
        ⟨some 45, .load (some 2) (.t 9), none⟩,
        ⟨some 46, .bslice 2 1 [(.sl true []), (.i 0)] [(0, (.t 45))], none⟩,
        ⟨some 47, .app 2 (.t 44) (.t 46), none⟩,
        ⟨some 48, .faddr 0 (.t 6), none⟩,
        ⟨none, .store 1 (.t 48) (.t 47), none⟩] [2, 6, 28, 29, 30])))))))
    (.reg none [⟨some 49, .bin .add (.t 30) (.c (.i 1)), none⟩,
      ⟨some 30, .mov (.t 49), none⟩] [2, 6, 28, 29, 30])))) [2, 6, 28, 29, 30]
/-- truss/term.simple -/
def ir_term_simple : IF := ⟨1,
  .seq (.reg none [⟨some 1, .box 4 (.t 0), none⟩,
    ⟨some 2, .alloc [(.sl true []), (.i 0)], none⟩,
    ⟨some 3, .mov (.c (.i 0)), none⟩] [1, 2])
  (.ps [.ownAt 1 3 4, .ownAt 2 0 2] (.seq (.reg none [⟨some 12, .load (some 4) (.t 1), none⟩,
    ⟨some 13, .call (.f n_term_Domains) [(.t 12)], none⟩,
    ⟨some 11, .mov (.t 13), none⟩,
    ⟨some 14, .extr 0 (.t 11), none⟩,
    ⟨some 15, .extr 1 (.t 11), none⟩,
    ⟨some 5, .alloc [(.i 0), (.i 0), (.i 0), (.sl true [])], none⟩,
    ⟨some 4, .mov (.t 14), none⟩,
    ⟨none, .store 4 (.t 5) (.t 15), none⟩] [2, 4, 5])
  (.ps [.ownAt 5 3 4] (.seq (.seq (.reg none [⟨some 16, .faddr 0 (.t 5), none⟩,
    ⟨some 17, .load none (.t 16), none⟩,
    ⟨some 18, .bin .neq (.t 17) (.c (.i 4)), none⟩,
    ⟨some 19, .mov (.t 18), none⟩,
    ⟨some 20, .faddr 1 (.t 5), some (19, false)⟩,
    ⟨some 21, .load none (.t 20), some (19, false)⟩,
    ⟨some 22, .bin .neq (.t 21) (.c (.i 2)), some (19, false)⟩,
    ⟨some 23, .pick (.t 19) (.c (.b true)) (.t 22), none⟩] [2, 4, 5, 23])
  (.cond (.t 23) (.seq (.reg none [⟨some 24, .build [(.sl true []), (.i 0)] [], none⟩,
      ⟨none, .store 2 (.t 2) (.t 24), none⟩,
      ⟨some 3, .mov (.c (.i 22)), none⟩] [2, 3])
    (.ret [2, 3]))
  (.skip)))
  (.seq (.reg none [⟨some 25, .faddr 2 (.t 5), none⟩,
    ⟨some 26, .load none (.t 25), none⟩,
    ⟨some 27, .build [(.sl true []), (.i 0)] [(1, 1, (.t 26))], none⟩,
    ⟨some 6, .alloc [(.sl true []), (.i 0)], none⟩,
    ⟨none, .store 2 (.t 6) (.t 27), none⟩] [2, 4, 6])
  (.ps [.ownAt 6 0 2] (.seq (.seq (.reg none [⟨some 28, .mov (.t 4), none⟩,
    ⟨some 29, .len false (.t 28), none⟩,
    ⟨some 30, .mov (.c (.i 0)), none⟩] [2, 6, 28, 29, 30])
  (.block 0 (.loop ir_term_simpleL0)))
  (.seq (.reg none [⟨some 50, .load (some 2) (.t 6), none⟩,
    ⟨none, .store 2 (.t 2) (.t 50), none⟩,
    ⟨some 3, .mov (.c (.i 0)), none⟩] [2, 3])
  (.ret [2, 3]))))))))),
  [.cell 2 (some 2), .t 3], 0⟩

def ir_enum_lister_waysL0 : IC :=
  .cut (.seq (.seq (.reg none [⟨some 17, .mov (.t 10), none⟩,
      ⟨some 18, .mov (.t 3), none⟩,
      ⟨some 19, .mov (.t 2), none⟩,
      ⟨some 20, .len false (.t 19), none⟩,
      ⟨some 21, .bin .sub (.t 18) (.t 20), none⟩,
      ⟨some 22, .bin .add (.t 21) (.c (.i 1)), none⟩,
      ⟨some 23, .bin .leq (.t 17) (.t 22), none⟩] [0, 1, 2, 3, 9, 10, 23])
    (.cond (.t 23) (.skip)
    (.exit 0 [9])))
    (.seq (.block 1 (.seq (.reg none [⟨some 26, .mov (.t 0), none⟩,
        ⟨some 27, .mov (.t 1), none⟩,
        ⟨some 28, .mov (.t 2), none⟩,
        ⟨some 29, .iaddr none 2 (.t 28) (.c (.i 0)), none⟩,
        ⟨some 30, .load (some 2) (.t 29), none⟩,
        ⟨some 31, .mov (.t 10), none⟩,
        ⟨some 32, .call (.f n_enum_lister_count) [(.t 26), (.t 27), (.t 30), (.t 31)], none⟩,
        ⟨some 11, .mov (.t 32), none⟩] [0, 1, 2, 3, 9, 10, 11])
      (.seq (.reg none [⟨some 33, .mov (.t 11), none⟩,
        ⟨some 34, .bin .gtr (.t 33) (.c (.i 0)), none⟩] [0, 1, 2, 3, 9, 10, 11, 34])
      (.cond (.t 34) (.reg none [⟨some 35, .mov (.t 9), none⟩,
          ⟨some 36, .mov (.t 11), none⟩,
          ⟨some 37, .mov (.t 0), none⟩,
          ⟨some 38, .mov (.t 1), none⟩,
          ⟨some 39, .mov (.t 2), none⟩,
          ⟨some 40, .slice 2 (.t 39) (some (.c (.i 1))) none none, none⟩,
          ⟨some 41, .mov (.t 3), none⟩,
          ⟨some 42, .mov (.t 10), none⟩,
          ⟨some 43, .bin .sub (.t 41) (.t 42), none⟩,
          ⟨some 44, .call (.f n_enum_lister_ways) [(.t 37), (.t 38), (.t 40), (.t 43)], none⟩,
          ⟨some 45, .bin .mul (.t 36) (.t 44), none⟩,
          ⟨some 46, .bin .add (.t 35) (.t 45), none⟩,
          ⟨some 47, .call (.f n_enum_bounded) [(.t 46)], none⟩,
          ⟨some 9, .mov (.t 47), none⟩] [0, 1, 2, 3, 9, 10])
      (.skip)))))
    (.reg none [⟨some 24, .mov (.t 10), none⟩,
      ⟨some 25, .bin .add (.t 24) (.c (.i 1)), none⟩,
      ⟨some 10, .mov (.t 25), none⟩] [0, 1, 2, 3, 9, 10]))) [0, 1, 2, 3, 9, 10]
/-- (*truss/enum.lister).ways -/
def ir_enum_lister_ways : IF := ⟨4,
  .seq (.reg none [⟨some 8, .mov (.c (.i 0)), none⟩] [0, 1, 2, 3])
  (.seq (.seq (.reg none [⟨some 12, .mov (.t 2), none⟩,
    ⟨some 13, .len false (.t 12), none⟩,
    ⟨some 14, .bin .eql (.t 13) (.c (.i 0)), none⟩] [0, 1, 2, 3, 14])
  (.cond (.t 14) (.seq (.seq (.reg none [⟨some 15, .mov (.t 3), none⟩,
      ⟨some 16, .bin .eql (.t 15) (.c (.i 0)), none⟩] [16])
    (.cond (.t 16) (.seq (.reg none [⟨some 8, .mov (.c (.i 1)), none⟩] [8])
      (.ret [8]))
    (.skip)))
    (.seq (.reg none [⟨some 8, .mov (.c (.i 0)), none⟩] [8])
    (.ret [8])))
  (.skip)))
  (.seq (.reg none [⟨some 9, .mov (.c (.i 0)), none⟩] [0, 1, 2, 3, 9])
  (.seq (.seq (.reg none [⟨some 10, .mov (.c (.i 1)), none⟩] [0, 1, 2, 3, 9, 10])
  (.block 0 (.loop ir_enum_lister_waysL0)))
  (.seq (.reg none [⟨some 48, .mov (.t 9), none⟩,
    ⟨some 8, .mov (.t 48), none⟩] [8])
  (.ret [8]))))),
  [.t 8], 0⟩

def ir_enum_textsL0 : IC :=
  .cut (.seq (.reg none [⟨some 9, .bin .lss (.t 8) (.t 7), none⟩] [3, 6, 7, 8, 9])
    (.seq (.cond (.t 9) (.skip)
    (.exit 0 [3]))
    (.seq (.block 1 (.seq (.reg none [⟨some 10, .iaddr none 2 (.t 6) (.t 8), none⟩,
        ⟨some 11, .load (some 2) (.t 10), none⟩,
        ⟨some 5, .alloc [(.sl true []), (.i 0)], none⟩,
        ⟨none, .store 2 (.t 5) (.t 11), none⟩] [3, 5, 6, 7, 8])
      (.ps [.ownAt 5 0 2] (.reg none [⟨some 12, .mov (.t 3), none⟩,
        ⟨some 13, .load (some 2) (.t 5), none⟩,
        ⟨some 14, .call (.f n_enum_text) [(.t 13)], none⟩,
        ⟨some 15, .bin .add (.t 12) (.t 14), none⟩,
        ⟨some 3, .mov (.t 15), none⟩] [3, 6, 7, 8]))))
    (.reg none [⟨some 16, .bin .add (.t 8) (.c (.i 1)), none⟩,
      ⟨some 8, .mov (.t 16), none⟩] [3, 6, 7, 8])))) [3, 6, 7, 8]
/-- truss/enum.texts -/
def ir_enum_texts : IF := ⟨1,
  .seq (.reg none [⟨some 2, .mov (.c (.s ⟨#[]⟩)), none⟩] [0])
  (.seq (.reg none [⟨some 3, .mov (.c (.s ⟨#[]⟩)), none⟩] [0, 3])
  (.seq (.seq (.reg none [⟨some 6, .mov (.t 0), none⟩,
    ⟨some 7, .len false (.t 6), none⟩,
    ⟨some 8, .mov (.c (.i 0)), none⟩] [3, 6, 7, 8])
  (.block 0 (.loop ir_enum_textsL0)))
  (.seq (.reg none [⟨some 17, .mov (.t 3), none⟩,
    ⟨some 2, .mov (.t 17), none⟩] [2])
  (.ret [2])))),
  [.t 2], 0⟩

def ir_enum_textL0 : IC :=
  .cut (.seq (.reg none [⟨some 14, .bin .lss (.t 13) (.t 12), none⟩] [3, 11, 12, 13, 14])
    (.seq (.cond (.t 14) (.skip)
    (.exit 0 [3]))
    (.seq (.block 1 (.seq (.reg none [⟨some 15, .iaddr none 2 (.t 11) (.t 13), none⟩,
        ⟨some 16, .load (some 2) (.t 15), none⟩,
        ⟨some 5, .alloc [(.sl true []), (.i 0)], none⟩,
        ⟨none, .store 2 (.t 5) (.t 16), none⟩] [3, 5, 11, 12, 13])
      (.ps [.ownAt 5 0 2] (.reg none [⟨some 17, .mov (.t 3), none⟩,
        ⟨some 18, .load (some 2) (.t 5), none⟩,
        ⟨some 19, .call (.f n_enum_text) [(.t 18)], none⟩,
        ⟨some 20, .bin .add (.t 17) (.t 19), none⟩,
        ⟨some 3, .mov (.t 20), none⟩] [3, 11, 12, 13]))))
    (.reg none [⟨some 21, .bin .add (.t 13) (.c (.i 1)), none⟩,
      ⟨some 13, .mov (.t 21), none⟩] [3, 11, 12, 13])))) [3, 11, 12, 13]
/-- truss/enum.text -/
def ir_enum_text : IF := ⟨1,
  .seq (.reg none [⟨some 1, .box 2 (.t 0), none⟩,
    ⟨some 2, .mov (.c (.s ⟨#[]⟩)), none⟩] [1])
  (.ps [.ownAt 1 0 2] (.seq (.reg none [⟨some 6, .faddr 1 (.t 1), none⟩,
    ⟨some 7, .load none (.t 6), none⟩,
    ⟨some 8, .call (.f n_strconv_Itoa) [(.t 7)], none⟩,
    ⟨some 9, .bin .add (.t 8) (.c (.s ⟨#[40]⟩)), none⟩,
    ⟨some 3, .mov (.t 9), none⟩] [1, 3])
  (.seq (.seq (.reg none [⟨some 10, .faddr 0 (.t 1), none⟩,
    ⟨some 11, .load none (.t 10), none⟩,
    ⟨some 12, .len false (.t 11), none⟩,
    ⟨some 13, .mov (.c (.i 0)), none⟩] [3, 11, 12, 13])
  (.block 0 (.loop ir_enum_textL0)))
  (.seq (.reg none [⟨some 22, .mov (.t 3), none⟩,
    ⟨some 23, .bin .add (.t 22) (.c (.s ⟨#[41]⟩)), none⟩,
    ⟨some 2, .mov (.t 23), none⟩] [2])
  (.ret [2]))))),
  [.t 2], 0⟩

def ir_enum_lister_heads_1L0 : IC :=
  .cut (.seq (.reg none [⟨some 12, .bin .lss (.t 11) (.t 10), none⟩] [0, 1, 2, 3, 10, 11, 12])
    (.seq (.cond (.t 12) (.skip)
    (.exit 0 [0, 2, 3]))
    (.seq (.block 1 (.seq (.reg none [⟨some 13, .mov (.t 11), none⟩,
        ⟨some 5, .mov (.t 13), none⟩] [0, 1, 2, 3, 5, 10, 11])
      (.seq (.reg none [⟨some 14, .load none (.t 1), none⟩,
        ⟨some 15, .load none (.t 1), none⟩,
        ⟨some 16, .len false (.t 15), none⟩,
        ⟨some 17, .bin .sub (.t 16) (.c (.i 1)), none⟩,
        ⟨some 18, .mov (.t 5), none⟩,
        ⟨some 19, .bin .sub (.t 17) (.t 18), none⟩,
        ⟨some 20, .iaddr none 2 (.t 14) (.t 19), none⟩,
        ⟨some 21, .load (some 2) (.t 20), none⟩,
        ⟨some 6, .alloc [(.sl true []), (.i 0)], none⟩,
        ⟨none, .store 2 (.t 6) (.t 21), none⟩] [0, 1, 2, 3, 5, 6, 10, 11])
      (.ps [.ownAt 6 0 2] (.seq (.reg none [⟨some 22, .faddr 1 (.t 6), none⟩,
        ⟨some 23, .load none (.t 22), none⟩,
        ⟨some 24, .load none (.t 2), none⟩,
        ⟨some 25, .bin .eql (.t 23) (.t 24), none⟩,
        ⟨some 26, .mov (.t 25), none⟩,
        ⟨some 27, .mov (.t 0), some (26, true)⟩,
        ⟨some 28, .mov (.t 5), some (26, true)⟩,
        ⟨some 29, .build [(.i 0), (.i 0), (.i 0), (.sl true [])] [(0, 1, (.c (.i 4))), (1, 1, (.c (.i 1))), (2, 1, (.t 28))], some (26, true)⟩,
        ⟨some 30, .load (some 2) (.t 6), some (26, true)⟩,
        ⟨some 31, .build [(.i 0), (.i 0), (.i 0), (.sl true []), (.sl true []), (.i 0)] [(0, 4, (.t 29)), (4, 2, (.t 30))], some (26, true)⟩,
        ⟨some 32, .call (.v (.t 27)) [(.t 31)], some (26, true)⟩,
        ⟨some 33, .not (.t 32), some (26, true)⟩,
        ⟨some 34, .pick (.t 26) (.t 33) (.c (.b false)), none⟩] [0, 1, 2, 3, 10, 11, 34])
      (.cond (.t 34) (.ret [])
      (.skip)))))))
    (.reg none [⟨some 35, .bin .add (.t 11) (.c (.i 1)), none⟩,
      ⟨some 11, .mov (.t 35), none⟩] [0, 1, 2, 3, 10, 11])))) [0, 1, 2, 3, 10, 11]
def ir_enum_lister_heads_1L1 : IC :=
  .cut (.seq (.reg none [⟨some 42, .bin .lss (.t 41) (.t 40), none⟩] [0, 2, 3, 39, 40, 41, 42])
    (.seq (.cond (.t 42) (.skip)
    (.exit 2 []))
    (.seq (.block 3 (.seq (.reg none [⟨some 43, .mov (.t 41), none⟩,
        ⟨some 44, .iaddr none 2 (.t 39) (.t 41), none⟩,
        ⟨some 45, .load (some 2) (.t 44), none⟩,
        ⟨some 8, .alloc [(.sl true []), (.i 0)], none⟩,
        ⟨some 7, .mov (.t 43), none⟩,
        ⟨none, .store 2 (.t 8) (.t 45), none⟩] [0, 2, 3, 7, 8, 39, 40, 41])
      (.ps [.ownAt 8 0 2] (.seq (.reg none [⟨some 46, .load none (.t 3), none⟩,
        ⟨some 47, .nilc (.t 46), none⟩,
        ⟨some 48, .faddr 1 (.t 47), none⟩,
        ⟨some 49, .load none (.t 48), none⟩,
        ⟨some 50, .mov (.t 7), none⟩,
        ⟨some 51, .iaddr none 1 (.t 49) (.t 50), none⟩,
        ⟨some 52, .load none (.t 51), none⟩,
        ⟨some 53, .mov (.t 52), none⟩,
        ⟨some 54, .faddr 1 (.t 8), some (53, true)⟩,
        ⟨some 55, .load none (.t 54), some (53, true)⟩,
        ⟨some 56, .load none (.t 2), some (53, true)⟩,
        ⟨some 57, .bin .eql (.t 55) (.t 56), some (53, true)⟩,
        ⟨some 58, .pick (.t 53) (.t 57) (.c (.b false)), none⟩,
        ⟨some 59, .mov (.t 58), none⟩,
        ⟨some 60, .mov (.t 0), some (59, true)⟩,
        ⟨some 61, .mov (.t 7), some (59, true)⟩,
        ⟨some 62, .build [(.i 0), (.i 0), (.i 0), (.sl true [])] [(0, 1, (.c (.i 4))), (1, 1, (.c (.i 2))), (2, 1, (.t 61))], some (59, true)⟩,
        ⟨some 63, .load (some 2) (.t 8), some (59, true)⟩,
        ⟨some 64, .build [(.i 0), (.i 0), (.i 0), (.sl true []), (.sl true []), (.i 0)] [(0, 4, (.t 62)), (4, 2, (.t 63))], some (59, true)⟩,
        ⟨some 65, .call (.v (.t 60)) [(.t 64)], some (59, true)⟩,
        ⟨some 66, .not (.t 65), some (59, true)⟩,
        ⟨some 67, .pick (.t 59) (.t 66) (.c (.b false)), none⟩] [0, 2, 3, 39, 40, 41, 67])
      (.cond (.t 67) (.ret [])
      (.skip))))))
    (.reg none [⟨some 68, .bin .add (.t 41) (.c (.i 1)), none⟩,
      ⟨some 41, .mov (.t 68), none⟩] [0, 2, 3, 39, 40, 41])))) [0, 2, 3, 39, 40, 41]
/-- (*truss/enum.lister).heads$1 -/
def ir_enum_lister_heads_1 : IF := ⟨4,
  .seq (.seq (.reg none [⟨some 9, .load none (.t 1), none⟩,
    ⟨some 10, .len false (.t 9), none⟩,
    ⟨some 11, .mov (.c (.i 0)), none⟩] [0, 1, 2, 3, 10, 11])
  (.block 0 (.loop ir_enum_lister_heads_1L0)))
  (.seq (.reg none [⟨some 36, .load none (.t 3), none⟩,
    ⟨some 37, .nilc (.t 36), none⟩,
    ⟨some 38, .faddr 0 (.t 37), none⟩,
    ⟨some 39, .load none (.t 38), none⟩,
    ⟨some 40, .len false (.t 39), none⟩,
    ⟨some 41, .mov (.c (.i 0)), none⟩] [0, 2, 3, 39, 40, 41])
  (.block 2 (.loop ir_enum_lister_heads_1L1))),
  [], 0⟩

def ir_slices_insertionSortCmpFunc_api_TermL1 : IC :=
  .cut (.seq (.seq (.reg (some [(0, none), (1, none), (2, none), (3, none), (4, none), (5, none), (6, none), (7, none), (8, none), (9, none), (10, none), (11, none), (12, none), (13, none), (14, none), (15, none), (16, none)]) [⟨some 18, .mov (.t 9), none⟩,
      ⟨some 19, .mov (.t 1), none⟩,
      ⟨some 20, .bin .gtr (.t 18) (.t 19), none⟩,
      ⟨some 21, .mov (.t 20), none⟩,
      ⟨some 22, .mov (.t 3), some (21, true)⟩,
      ⟨some 23, .mov (.t 0), some (21, true)⟩,
      ⟨some 24, .mov (.t 9), some (21, true)⟩,
      ⟨some 25, .iaddr none 4 (.t 23) (.t 24), some (21, true)⟩,
      ⟨some 26, .load (some 4) (.t 25), some (21, true)⟩,
      ⟨some 27, .mov (.t 0), some (21, true)⟩,
      ⟨some 28, .mov (.t 9), some (21, true)⟩,
      ⟨some 29, .bin .sub (.t 28) (.c (.i 1)), some (21, true)⟩,
      ⟨some 30, .iaddr none 4 (.t 27) (.t 29), some (21, true)⟩,
      ⟨some 31, .load (some 4) (.t 30), some (21, true)⟩,
      ⟨some 32, .call (.v (.t 22)) [(.t 26), (.t 31)], some (21, true)⟩,
      ⟨some 33, .bin .lss (.t 32) (.c (.i 0)), some (21, true)⟩,
      ⟨some 34, .pick (.t 21) (.t 33) (.c (.b false)), none⟩] [0, 1, 2, 3, 8, 9, 34])
    (.cond (.t 34) (.skip)
    (.exit 2 [0, 1, 2, 3, 8])))
    (.seq (.block 3 (.reg (some [(0, none), (1, none), (2, none), (3, none), (4, none), (5, none), (6, none), (7, none), (8, none), (9, none), (10, none), (11, none), (12, none), (13, none), (14, none), (15, none), (16, none), (17, none)]) [⟨some 37, .mov (.t 0), none⟩,
        ⟨some 38, .mov (.t 9), none⟩,
        ⟨some 39, .mov (.t 0), none⟩,
        ⟨some 40, .mov (.t 9), none⟩,
        ⟨some 41, .bin .sub (.t 40) (.c (.i 1)), none⟩,
        ⟨some 42, .mov (.t 0), none⟩,
        ⟨some 43, .mov (.t 9), none⟩,
        ⟨some 44, .bin .sub (.t 43) (.c (.i 1)), none⟩,
        ⟨some 45, .iaddr none 4 (.t 42) (.t 44), none⟩,
        ⟨some 46, .load (some 4) (.t 45), none⟩,
        ⟨some 47, .mov (.t 0), none⟩,
        ⟨some 48, .mov (.t 9), none⟩,
        ⟨some 49, .iaddr none 4 (.t 47) (.t 48), none⟩,
        ⟨some 50, .load (some 4) (.t 49), none⟩,
        ⟨some 51, .iaddr none 4 (.t 37) (.t 38), none⟩,
        ⟨none, .store 4 (.t 51) (.t 46), none⟩,
        ⟨some 52, .iaddr none 4 (.t 39) (.t 41), none⟩,
        ⟨none, .store 4 (.t 52) (.t 50), none⟩] [0, 1, 2, 3, 8, 9]))
    (.reg none [⟨some 35, .mov (.t 9), none⟩,
      ⟨some 36, .bin .sub (.t 35) (.c (.i 1)), none⟩,
      ⟨some 9, .mov (.t 36), none⟩] [0, 1, 2, 3, 8, 9]))) [0, 1, 2, 3, 8, 9]
def ir_slices_insertionSortCmpFunc_api_TermL0 : IC :=
  .cut (.seq (.seq (.reg none [⟨some 12, .mov (.t 8), none⟩,
      ⟨some 13, .mov (.t 2), none⟩,
      ⟨some 14, .bin .lss (.t 12) (.t 13), none⟩] [0, 1, 2, 3, 8, 14])
    (.cond (.t 14) (.skip)
    (.exit 0 [])))
    (.seq (.block 1 (.seq (.reg none [⟨some 17, .mov (.t 8), none⟩,
        ⟨some 9, .mov (.t 17), none⟩] [0, 1, 2, 3, 8, 9])
      (.block 2 (.loop ir_slices_insertionSortCmpFunc_api_TermL1))))
    (.reg none [⟨some 15, .mov (.t 8), none⟩,
      ⟨some 16, .bin .add (.t 15) (.c (.i 1)), none⟩,
      ⟨some 8, .mov (.t 16), none⟩] [0, 1, 2, 3, 8]))) [0, 1, 2, 3, 8]
/-- slices.insertionSortCmpFunc[truss/api.Term] -/
def ir_slices_insertionSortCmpFunc_api_Term : IF := ⟨4,
  .seq (.reg none [⟨some 10, .mov (.t 1), none⟩,
    ⟨some 11, .bin .add (.t 10) (.c (.i 1)), none⟩,
    ⟨some 8, .mov (.t 11), none⟩] [0, 1, 2, 3, 8])
  (.block 0 (.loop ir_slices_insertionSortCmpFunc_api_TermL0)),
  [], 0⟩

/-- math/bits.Len64 -/
def ir_math_bits_Len64 : IF := ⟨1,
  .seq (.reg none [⟨some 2, .mov (.c (.i 0)), none⟩] [0, 2])
  (.seq (.seq (.reg none [⟨some 3, .mov (.t 0), none⟩,
    ⟨some 4, .bin .geq (.t 3) (.c (.k (.int .u64 4294967296))), none⟩] [0, 2, 4])
  (.cond (.t 4) (.seq (.reg none [⟨some 5, .mov (.t 0), none⟩,
      ⟨some 6, .bin .shr (.t 5) (.c (.k (.int .u64 32))), none⟩,
      ⟨some 0, .mov (.t 6), none⟩] [0])
    (.reg none [⟨some 2, .mov (.c (.i 32)), none⟩] [0, 2]))
  (.skip)))
  (.seq (.seq (.reg none [⟨some 7, .mov (.t 0), none⟩,
    ⟨some 8, .bin .geq (.t 7) (.c (.k (.int .u64 65536))), none⟩] [0, 2, 8])
  (.cond (.t 8) (.seq (.reg none [⟨some 9, .mov (.t 0), none⟩,
      ⟨some 10, .bin .shr (.t 9) (.c (.k (.int .u64 16))), none⟩,
      ⟨some 0, .mov (.t 10), none⟩] [0, 2])
    (.reg none [⟨some 11, .mov (.t 2), none⟩,
      ⟨some 12, .bin .add (.t 11) (.c (.i 16)), none⟩,
      ⟨some 2, .mov (.t 12), none⟩] [0, 2]))
  (.skip)))
  (.seq (.seq (.reg none [⟨some 13, .mov (.t 0), none⟩,
    ⟨some 14, .bin .geq (.t 13) (.c (.k (.int .u64 256))), none⟩] [0, 2, 14])
  (.cond (.t 14) (.seq (.reg none [⟨some 15, .mov (.t 0), none⟩,
      ⟨some 16, .bin .shr (.t 15) (.c (.k (.int .u64 8))), none⟩,
      ⟨some 0, .mov (.t 16), none⟩] [0, 2])
    (.reg none [⟨some 17, .mov (.t 2), none⟩,
      ⟨some 18, .bin .add (.t 17) (.c (.i 8)), none⟩,
      ⟨some 2, .mov (.t 18), none⟩] [0, 2]))
  (.skip)))
  (.seq (.reg none [⟨some 19, .mov (.t 2), none⟩,
    ⟨some 20, .mov (.t 0), none⟩,
    ⟨some 21, .conv .u8 (.t 20), none⟩,
    ⟨some 22, .idx (.c (.s ⟨#[0, 1, 2, 2, 3, 3, 3, 3, 4, 4, 4, 4, 4, 4, 4, 4, 5, 5, 5, 5, 5, 5, 5, 5, 5, 5, 5, 5, 5, 5, 5, 5, 6, 6, 6, 6, 6, 6, 6, 6, 6, 6, 6, 6, 6, 6, 6, 6, 6, 6, 6, 6, 6, 6, 6, 6, 6, 6, 6, 6, 6, 6, 6, 6, 7, 7, 7, 7, 7, 7, 7, 7, 7, 7, 7, 7, 7, 7, 7, 7, 7, 7, 7, 7, 7, 7, 7, 7, 7, 7, 7, 7, 7, 7, 7, 7, 7, 7, 7, 7, 7, 7, 7, 7, 7, 7, 7, 7, 7, 7, 7, 7, 7, 7, 7, 7, 7, 7, 7, 7, 7, 7, 7, 7, 7, 7, 7, 7, 8, 8, 8, 8, 8, 8, 8, 8, 8, 8, 8, 8, 8, 8, 8, 8, 8, 8, 8, 8, 8, 8, 8, 8, 8, 8, 8, 8, 8, 8, 8, 8, 8, 8, 8, 8, 8, 8, 8, 8, 8, 8, 8, 8, 8, 8, 8, 8, 8, 8, 8, 8, 8, 8, 8, 8, 8, 8, 8, 8, 8, 8, 8, 8, 8, 8, 8, 8, 8, 8, 8, 8, 8, 8, 8, 8, 8, 8, 8, 8, 8, 8, 8, 8, 8, 8, 8, 8, 8, 8, 8, 8, 8, 8, 8, 8, 8, 8, 8, 8, 8, 8, 8, 8, 8, 8, 8, 8, 8, 8, 8, 8, 8, 8, 8, 8, 8, 8, 8, 8, 8, 8, 8, 8, 8, 8, 8, 8]⟩)) (.t 21), none⟩,
    ⟨some 23, .conv .i64 (.t 22), none⟩,
    ⟨some 24, .bin .add (.t 19) (.t 23), none⟩,
    ⟨some 2, .mov (.t 24), none⟩] [2])
  (.ret [2]))))),
  [.t 2], 0⟩

def ir_slices_Concat_of_Term_api_TermL0 : IC :=
  .cut (.seq (.reg none [⟨some 12, .bin .lss (.t 11) (.t 10), none⟩] [0, 3, 9, 10, 11, 12])
    (.seq (.cond (.t 12) (.skip)
    (.exit 0 [0, 3]))
    (.seq (.block 1 (.seq (.reg none [⟨some 13, .iaddr none 1 (.t 9) (.t 11), none⟩,
        ⟨some 14, .load none (.t 13), none⟩,
        ⟨some 5, .mov (.t 14), none⟩] [0, 3, 5, 9, 10, 11])
      (.seq (.reg none [⟨some 15, .mov (.t 3), none⟩,
        ⟨some 16, .mov (.t 5), none⟩,
        ⟨some 17, .len false (.t 16), none⟩,
        ⟨some 18, .bin .add (.t 15) (.t 17), none⟩,
        ⟨some 3, .mov (.t 18), none⟩] [0, 3, 9, 10, 11])
      (.seq (.reg none [⟨some 19, .mov (.t 3), none⟩,
        ⟨some 20, .bin .lss (.t 19) (.c (.i 0)), none⟩] [0, 3, 9, 10, 11, 20])
      (.cond (.t 20) (.reg none [⟨some 21, .miface 9 (.c (.s ⟨#[108, 101, 110, 32, 111, 117, 116, 32, 111, 102, 32, 114, 97, 110, 103, 101]⟩)), none⟩,
          ⟨none, .panic (.t 21), none⟩] [0, 3, 9, 10, 11])
      (.skip))))))
    (.reg none [⟨some 22, .bin .add (.t 11) (.c (.i 1)), none⟩,
      ⟨some 11, .mov (.t 22), none⟩] [0, 3, 9, 10, 11])))) [0, 3, 9, 10, 11]
def ir_slices_Concat_of_Term_api_TermL1 : IC :=
  .cut (.seq (.reg none [⟨some 28, .bin .lss (.t 27) (.t 26), none⟩] [6, 25, 26, 27, 28])
    (.seq (.cond (.t 28) (.skip)
    (.exit 2 [6]))
    (.seq (.block 3 (.seq (.reg none [⟨some 29, .iaddr none 1 (.t 25) (.t 27), none⟩,
        ⟨some 30, .load none (.t 29), none⟩,
        ⟨some 8, .mov (.t 30), none⟩] [6, 8, 25, 26, 27])
      (.reg none [⟨some 31, .mov (.t 6), none⟩,
        ⟨some 32, .mov (.t 8), none⟩,
        ⟨some 33, .app 4 (.t 31) (.t 32), none⟩,
        ⟨some 6, .mov (.t 33), none⟩] [6, 25, 26, 27])))
    (.reg none [⟨some 34, .bin .add (.t 27) (.c (.i 1)), none⟩,
      ⟨some 27, .mov (.t 34), none⟩] [6, 25, 26, 27])))) [6, 25, 26, 27]
/-- slices.Concat[[]truss/api.Term,truss/api.Term] -/
def ir_slices_Concat_of_Term_api_Term : IF := ⟨1,
  .seq (.reg none [⟨some 2, .mov (.c (.sl true [])), none⟩] [0])
  (.seq (.reg none [⟨some 3, .mov (.c (.i 0)), none⟩] [0, 3])
  (.seq (.seq (.reg none [⟨some 9, .mov (.t 0), none⟩,
    ⟨some 10, .len false (.t 9), none⟩,
    ⟨some 11, .mov (.c (.i 0)), none⟩] [0, 3, 9, 10, 11])
  (.block 0 (.loop ir_slices_Concat_of_Term_api_TermL0)))
  (.seq (.reg none [⟨some 23, .mov (.t 3), none⟩,
    ⟨some 24, .call (.f n_slices_Grow_of_Term_api_Term) [(.c (.sl true [])), (.t 23)], none⟩,
    ⟨some 6, .mov (.t 24), none⟩] [0, 6])
  (.seq (.seq (.reg none [⟨some 25, .mov (.t 0), none⟩,
    ⟨some 26, .len false (.t 25), none⟩,
    ⟨some 27, .mov (.c (.i 0)), none⟩] [6, 25, 26, 27])
  (.block 2 (.loop ir_slices_Concat_of_Term_api_TermL1)))
  (.seq (.reg none [⟨some 35, .mov (.t 6), none⟩,
    ⟨some 2, .mov (.t 35), none⟩] [2])
  (.ps [.frz 2] (.ret [2]))))))),
  [.t 2], 0⟩

/-- truss/check.good$1 -/
def ir_check_good_1 : IF := ⟨1,
  .seq (.reg none [⟨some 1, .box 4 (.t 0), none⟩,
    ⟨some 2, .mov (.c (.b false)), none⟩] [1])
  (.ps [.ownAt 1 3 4] (.seq (.reg none [⟨some 3, .load (some 4) (.t 1), none⟩,
    ⟨some 4, .call (.f n_term_Check) [(.t 3)], none⟩,
    ⟨some 5, .bin .neq (.t 4) (.c (.i 0)), none⟩,
    ⟨some 2, .mov (.t 5), none⟩] [2])
  (.ret [2]))),
  [.t 2], 0⟩

/-- truss/check.deeper -/
def ir_check_deeper : IF := ⟨2,
  .seq (.reg none [⟨some 3, .box 4 (.t 1), none⟩,
    ⟨some 4, .mov (.c (.sl true [])), none⟩,
    ⟨some 5, .mov (.c (.i 0)), none⟩] [0, 3])
  (.ps [.ownAt 3 3 4] (.seq (.seq (.reg none [⟨some 6, .mov (.t 0), none⟩,
    ⟨some 7, .len false (.t 6), none⟩,
    ⟨some 8, .bin .geq (.t 7) (.c (.i 30)), none⟩] [0, 3, 8])
  (.cond (.t 8) (.seq (.reg none [⟨some 4, .mov (.c (.sl true [])), none⟩,
      ⟨some 5, .mov (.c (.i 5)), none⟩] [4, 5])
    (.ret [4, 5]))
  (.skip)))
  (.seq (.reg (some [(0, none), (2, none), (1, none), (3, none), (4, none), (5, none), (6, none)]) [⟨some 9, .mov (.t 0), none⟩,
    ⟨some 11, .load (some 4) (.t 3), none⟩,
    ⟨some 10, .callg (.f n_slices_Clone_of_Term_api_Term) [(.t 9)], none⟩,
    ⟨some 12, .bslice 4 1 [(.i 0), (.i 0), (.i 0), (.sl true [])] [(0, (.t 11))], none⟩,
    ⟨some 13, .app 4 (.t 10) (.t 12), none⟩,
    ⟨some 4, .mov (.t 13), none⟩,
    ⟨some 5, .mov (.c (.i 0)), none⟩] [4, 5])
  (.ret [4, 5])))),
  [.t 4, .t 5], 0⟩

/-- (truss/check.kernel).find -/
def ir_check_kernel_find : IF := ⟨3,
  .seq (.reg none [⟨some 3, .box 2 (.t 0), none⟩,
    ⟨some 5, .box 4 (.t 2), none⟩,
    ⟨some 6, .alloc [(.i 0), (.i 0), (.i 0), (.sl true [])], none⟩,
    ⟨some 7, .mov (.c (.i 0)), none⟩] [1, 3, 5, 6])
  (.ps [.ownAt 5 3 4, .ownAt 6 3 4] (.seq (.reg none [⟨some 12, .faddr 0 (.t 3), none⟩,
    ⟨some 13, .load none (.t 12), none⟩,
    ⟨some 14, .mov (.t 1), none⟩,
    ⟨some 15, .faddr 1 (.t 5), none⟩,
    ⟨some 16, .load none (.t 15), none⟩,
    ⟨some 17, .faddr 2 (.t 5), none⟩,
    ⟨some 18, .load none (.t 17), none⟩,
    ⟨some 19, .call (.m (.t 13) [(306, n_check_sigma_class)]) [(.t 14), (.t 16), (.t 18)], none⟩,
    ⟨some 11, .mov (.t 19), none⟩,
    ⟨some 20, .extr 0 (.t 11), none⟩,
    ⟨some 21, .extr 1 (.t 11), none⟩,
    ⟨some 8, .alloc [(.i 0), (.i 0), (.i 0), (.sl true [])], none⟩,
    ⟨none, .store 4 (.t 8) (.t 20), none⟩,
    ⟨some 9, .mov (.t 21), none⟩] [1, 3, 5, 6, 8, 9])
  (.ps [.ownAt 8 3 4] (.seq (.seq (.reg none [⟨some 22, .mov (.t 9), none⟩,
    ⟨some 23, .bin .neq (.t 22) (.c (.i 0)), none⟩] [1, 3, 5, 6, 8, 9, 23])
  (.cond (.t 23) (.seq (.reg none [⟨some 24, .build [(.i 0), (.i 0), (.i 0), (.sl true [])] [], none⟩,
      ⟨some 25, .mov (.t 9), none⟩,
      ⟨none, .store 4 (.t 6) (.t 24), none⟩,
      ⟨some 7, .mov (.t 25), none⟩] [6, 7])
    (.ret [6, 7]))
  (.skip)))
  (.seq (.reg none [⟨some 27, .load (some 2) (.t 3), none⟩,
    ⟨some 28, .mov (.t 1), none⟩,
    ⟨some 29, .faddr 3 (.t 5), none⟩,
    ⟨some 30, .load none (.t 29), none⟩,
    ⟨some 31, .load (some 4) (.t 8), none⟩,
    ⟨some 32, .call (.f n_check_kernel_fit) [(.t 27), (.t 28), (.t 30), (.t 31)], none⟩,
    ⟨some 26, .mov (.t 32), none⟩,
    ⟨some 33, .extr 0 (.t 26), none⟩,
    ⟨some 34, .extr 1 (.t 26), none⟩,
    ⟨some 10, .alloc [(.i 0), (.i 0), (.i 0), (.sl true [])], none⟩,
    ⟨none, .store 4 (.t 10) (.t 33), none⟩,
    ⟨some 9, .mov (.t 34), none⟩] [6, 9, 10])
  (.ps [.ownAt 10 3 4] (.seq (.seq (.reg none [⟨some 35, .mov (.t 9), none⟩,
    ⟨some 36, .bin .eql (.t 35) (.c (.i 0)), none⟩,
    ⟨some 37, .mov (.t 36), none⟩,
    ⟨some 38, .faddr 0 (.t 10), some (37, true)⟩,
    ⟨some 39, .load none (.t 38), some (37, true)⟩,
    ⟨some 40, .bin .eql (.t 39) (.c (.i 2)), some (37, true)⟩,
    ⟨some 41, .pick (.t 37) (.t 40) (.c (.b false)), none⟩] [6, 9, 10, 41])
  (.cond (.t 41) (.reg none [⟨some 9, .mov (.c (.i 23)), none⟩] [6, 9, 10])
  (.skip)))
  (.seq (.seq (.reg none [⟨some 42, .mov (.t 9), none⟩,
    ⟨some 43, .bin .neq (.t 42) (.c (.i 0)), none⟩] [6, 9, 10, 43])
  (.cond (.t 43) (.seq (.reg none [⟨some 44, .build [(.i 0), (.i 0), (.i 0), (.sl true [])] [], none⟩,
      ⟨some 45, .mov (.t 9), none⟩,
      ⟨none, .store 4 (.t 6) (.t 44), none⟩,
      ⟨some 7, .mov (.t 45), none⟩] [6, 7])
    (.ret [6, 7]))
  (.skip)))
  (.seq (.reg none [⟨some 46, .load (some 4) (.t 10), none⟩,
    ⟨none, .store 4 (.t 6) (.t 46), none⟩,
    ⟨some 7, .mov (.c (.i 0)), none⟩] [6, 7])
  (.ret [6, 7])))))))))),
  [.cell 6 (some 4), .t 7], 0⟩

def ir_term_MapL0 : IC :=
  .cut (.seq (.reg none [⟨some 24, .bin .lss (.t 23) (.t 22), none⟩] [1, 2, 3, 6, 7, 21, 22, 23, 24])
    (.seq (.cond (.t 24) (.skip)
    (.exit 0 [6, 7]))
    (.seq (.block 1 (.seq (.reg none [⟨some 25, .mov (.t 23), none⟩,
        ⟨some 26, .iaddr none 4 (.t 21) (.t 23), none⟩,
        ⟨some 27, .load (some 4) (.t 26), none⟩,
        ⟨some 9, .alloc [(.i 0), (.i 0), (.i 0), (.sl true [])], none⟩,
        ⟨some 8, .mov (.t 25), none⟩,
        ⟨none, .store 4 (.t 9) (.t 27), none⟩] [1, 2, 3, 6, 7, 8, 9, 21, 22, 23])
      (.ps [.ownAt 9 3 4] (.reg (some [(0, none), (1, none), (2, none), (3, none), (4, none), (5, none), (6, none), (7, none), (8, none), (9, none), (10, none), (11, none), (12, none), (13, none)]) [⟨some 28, .faddr 3 (.t 7), none⟩,
        ⟨some 29, .load none (.t 28), none⟩,
        ⟨some 30, .load (some 4) (.t 9), none⟩,
        ⟨some 31, .mov (.t 1), none⟩,
        ⟨some 32, .load (some 4) (.t 3), none⟩,
        ⟨some 33, .mov (.t 8), none⟩,
        ⟨some 34, .callq (.f n_term_Under) [(.t 32), (.t 33)], none⟩,
        ⟨some 35, .bin .add (.t 31) (.t 34), none⟩,
        ⟨some 36, .mov (.t 2), none⟩,
        ⟨some 37, .callq (.f n_term_Map) [(.t 30), (.t 35), (.t 36)], none⟩,
        ⟨some 38, .bslice 4 1 [(.i 0), (.i 0), (.i 0), (.sl true [])] [(0, (.t 37))], none⟩,
        ⟨some 39, .app 4 (.t 29) (.t 38), none⟩,
        ⟨some 40, .faddr 3 (.t 7), none⟩,
        ⟨none, .store 1 (.t 40) (.t 39), none⟩] [1, 2, 3, 6, 7, 21, 22, 23]))))
    (.reg none [⟨some 41, .bin .add (.t 23) (.c (.i 1)), none⟩,
      ⟨some 23, .mov (.t 41), none⟩] [1, 2, 3, 6, 7, 21, 22, 23])))) [1, 2, 3, 6, 7, 21, 22, 23]
/-- truss/term.Map -/
def ir_term_Map : IF := ⟨3,
  .seq (.reg none [⟨some 3, .box 4 (.t 0), none⟩,
    ⟨some 6, .alloc [(.i 0), (.i 0), (.i 0), (.sl true [])], none⟩] [1, 2, 3, 6])
  (.ps [.ownAt 3 3 4, .ownAt 6 3 4] (.seq (.reg none [⟨some 10, .mov (.t 2), none⟩,
    ⟨some 11, .faddr 0 (.t 3), none⟩,
    ⟨some 12, .load none (.t 11), none⟩,
    ⟨some 13, .faddr 1 (.t 3), none⟩,
    ⟨some 14, .load none (.t 13), none⟩,
    ⟨some 15, .faddr 2 (.t 3), none⟩,
    ⟨some 16, .load none (.t 15), none⟩,
    ⟨some 17, .build [(.i 0), (.i 0), (.i 0), (.sl true [])] [(0, 1, (.t 12)), (1, 1, (.t 14)), (2, 1, (.t 16))], none⟩,
    ⟨some 18, .mov (.t 1), none⟩,
    ⟨some 19, .call (.v (.t 10)) [(.t 17), (.t 18)], none⟩,
    ⟨some 7, .alloc [(.i 0), (.i 0), (.i 0), (.sl true [])], none⟩,
    ⟨none, .store 4 (.t 7) (.t 19), none⟩] [1, 2, 3, 6, 7])
  (.ps [.ownAt 7 3 4] (.seq (.seq (.reg none [⟨some 20, .faddr 3 (.t 3), none⟩,
    ⟨some 21, .load none (.t 20), none⟩,
    ⟨some 22, .len false (.t 21), none⟩,
    ⟨some 23, .mov (.c (.i 0)), none⟩] [1, 2, 3, 6, 7, 21, 22, 23])
  (.block 0 (.loop ir_term_MapL0)))
  (.seq (.reg none [⟨some 42, .load (some 4) (.t 7), none⟩,
    ⟨none, .store 4 (.t 6) (.t 42), none⟩] [6])
  (.ret [6])))))),
  [.cell 6 (some 4)], 0⟩

/-- truss/term.Copy$1 -/
def ir_term_Copy_1 : IF := ⟨2,
  .seq (.reg none [⟨some 2, .box 4 (.t 0), none⟩,
    ⟨some 4, .alloc [(.i 0), (.i 0), (.i 0), (.sl true [])], none⟩] [2, 4])
  (.ps [.ownAt 2 3 4, .ownAt 4 3 4] (.seq (.reg none [⟨some 5, .load (some 4) (.t 2), none⟩,
    ⟨none, .store 4 (.t 4) (.t 5), none⟩] [4])
  (.ret [4]))),
  [.cell 4 (some 4)], 0⟩

def ir_lexis_nameL0 : IC :=
  .cut (.seq (.reg none [⟨some 24, .bin .lss (.t 23) (.t 22), none⟩] [0, 22, 23, 24])
    (.seq (.cond (.t 24) (.skip)
    (.exit 0 []))
    (.seq (.block 1 (.seq (.reg none [⟨some 25, .mov (.t 23), none⟩,
        ⟨some 5, .mov (.t 25), none⟩] [0, 5, 22, 23])
      (.seq (.reg none [⟨some 26, .mov (.t 0), none⟩,
        ⟨some 27, .mov (.t 5), none⟩,
        ⟨some 28, .idx (.t 26) (.t 27), none⟩,
        ⟨some 29, .call (.f n_lexis_nameByte) [(.t 28)], none⟩,
        ⟨some 30, .not (.t 29), none⟩] [0, 22, 23, 30])
      (.cond (.t 30) (.seq (.reg none [⟨some 4, .mov (.c (.b false)), none⟩] [4])
        (.ret [4]))
      (.skip)))))
    (.reg none [⟨some 31, .bin .add (.t 23) (.c (.i 1)), none⟩,
      ⟨some 23, .mov (.t 31), none⟩] [0, 22, 23])))) [0, 22, 23]
/-- truss/lexis.name -/
def ir_lexis_name : IF := ⟨2,
  .seq (.reg none [⟨some 4, .mov (.c (.b false)), none⟩] [0, 1])
  (.seq (.seq (.reg none [⟨some 6, .mov (.t 0), none⟩,
    ⟨some 7, .len true (.t 6), none⟩,
    ⟨some 8, .bin .lss (.t 7) (.c (.i 1)), none⟩,
    ⟨some 9, .mov (.t 8), none⟩,
    ⟨some 10, .mov (.t 0), some (9, false)⟩,
    ⟨some 11, .len true (.t 10), some (9, false)⟩,
    ⟨some 12, .bin .gtr (.t 11) (.c (.i 16)), some (9, false)⟩,
    ⟨some 13, .pick (.t 9) (.c (.b true)) (.t 12), none⟩,
    ⟨some 14, .mov (.t 13), none⟩,
    ⟨some 15, .mov (.t 1), some (14, false)⟩,
    ⟨some 16, .mov (.t 0), some (14, false)⟩,
    ⟨some 17, .idx (.t 16) (.c (.i 0)), some (14, false)⟩,
    ⟨some 18, .call (.v (.t 15)) [(.t 17)], some (14, false)⟩,
    ⟨some 19, .not (.t 18), some (14, false)⟩,
    ⟨some 20, .pick (.t 14) (.c (.b true)) (.t 19), none⟩] [0, 20])
  (.cond (.t 20) (.seq (.reg none [⟨some 4, .mov (.c (.b false)), none⟩] [4])
    (.ret [4]))
  (.skip)))
  (.seq (.seq (.reg none [⟨some 21, .mov (.t 0), none⟩,
    ⟨some 22, .len true (.t 21), none⟩,
    ⟨some 23, .mov (.c (.i 0)), none⟩] [0, 22, 23])
  (.block 0 (.loop ir_lexis_nameL0)))
  (.seq (.reg none [⟨some 4, .mov (.c (.b true)), none⟩] [4])
  (.ret [4])))),
  [.t 4], 0⟩

/-- truss/lexis.small -/
def ir_lexis_small : IF := ⟨1,
  .seq (.reg none [⟨some 2, .mov (.c (.b false)), none⟩] [0])
  (.seq (.reg none [⟨some 3, .mov (.t 0), none⟩,
    ⟨some 4, .bin .geq (.t 3) (.c (.k (.int .u8 97))), none⟩,
    ⟨some 5, .mov (.t 4), none⟩,
    ⟨some 6, .mov (.t 0), some (5, true)⟩,
    ⟨some 7, .bin .leq (.t 6) (.c (.k (.int .u8 122))), some (5, true)⟩,
    ⟨some 8, .pick (.t 5) (.t 7) (.c (.b false)), none⟩,
    ⟨some 2, .mov (.t 8), none⟩] [2])
  (.ret [2])),
  [.t 2], 0⟩

/-- internal/strconv.Itoa -/
def ir_internal_strconv_Itoa : IF := ⟨1,
  .seq (.reg none [⟨some 2, .mov (.c (.s ⟨#[]⟩)), none⟩] [0])
  (.seq (.reg none [⟨some 3, .mov (.t 0), none⟩,
    ⟨some 4, .call (.f n_internal_strconv_FormatInt) [(.t 3), (.c (.i 10))], none⟩,
    ⟨some 2, .mov (.t 4), none⟩] [2])
  (.ret [2])),
  [.t 2], 0⟩

/-- truss/term.Under -/
def ir_term_Under : IF := ⟨2,
  .seq (.reg none [⟨some 2, .box 4 (.t 0), none⟩,
    ⟨some 4, .mov (.c (.i 0)), none⟩] [1, 2])
  (.ps [.ownAt 2 3 4] (.seq (.seq (.reg none [⟨some 5, .faddr 0 (.t 2), none⟩,
    ⟨some 6, .load none (.t 5), none⟩,
    ⟨some 7, .bin .eql (.t 6) (.c (.i 3)), none⟩,
    ⟨some 8, .mov (.t 7), none⟩,
    ⟨some 9, .faddr 0 (.t 2), some (8, false)⟩,
    ⟨some 10, .load none (.t 9), some (8, false)⟩,
    ⟨some 11, .bin .eql (.t 10) (.c (.i 2)), some (8, false)⟩,
    ⟨some 12, .mov (.t 11), some (8, false)⟩,
    ⟨some 13, .mov (.t 1), some (12, true)⟩,
    ⟨some 14, .bin .eql (.t 13) (.c (.i 1)), some (12, true)⟩,
    ⟨some 15, .pick (.t 12) (.t 14) (.c (.b false)), some (8, false)⟩,
    ⟨some 16, .pick (.t 8) (.c (.b true)) (.t 15), none⟩] [16])
  (.cond (.t 16) (.seq (.reg none [⟨some 4, .mov (.c (.i 1)), none⟩] [4])
    (.ret [4]))
  (.skip)))
  (.seq (.reg none [⟨some 4, .mov (.c (.i 0)), none⟩] [4])
  (.ret [4])))),
  [.t 4], 0⟩

/-- truss/term.Shift -/
def ir_term_Shift : IF := ⟨3,
  .seq (.reg none [⟨some 3, .box 4 (.t 0), none⟩,
    ⟨some 4, .box 1 (.t 1), none⟩,
    ⟨some 5, .box 1 (.t 2), none⟩,
    ⟨some 6, .alloc [(.i 0), (.i 0), (.i 0), (.sl true [])], none⟩,
    ⟨some 7, .mov (.c (.i 0)), none⟩] [3, 4, 5, 6])
  (.ps [.ownAt 3 3 4, .ownAt 6 3 4] (.seq (.seq (.reg none [⟨some 10, .load (some 4) (.t 3), none⟩,
    ⟨some 11, .call (.f n_term_Check) [(.t 10)], none⟩,
    ⟨some 12, .bin .neq (.t 11) (.c (.i 0)), none⟩,
    ⟨some 13, .mov (.t 12), none⟩,
    ⟨some 14, .load none (.t 4), some (13, false)⟩,
    ⟨some 15, .bin .lss (.t 14) (.c (.i (-9999))), some (13, false)⟩,
    ⟨some 16, .pick (.t 13) (.c (.b true)) (.t 15), none⟩,
    ⟨some 17, .mov (.t 16), none⟩,
    ⟨some 18, .load none (.t 4), some (17, false)⟩,
    ⟨some 19, .bin .gtr (.t 18) (.c (.i 9999)), some (17, false)⟩,
    ⟨some 20, .pick (.t 17) (.c (.b true)) (.t 19), none⟩,
    ⟨some 21, .mov (.t 20), none⟩,
    ⟨some 22, .load none (.t 5), some (21, false)⟩,
    ⟨some 23, .bin .lss (.t 22) (.c (.i 0)), some (21, false)⟩,
    ⟨some 24, .pick (.t 21) (.c (.b true)) (.t 23), none⟩,
    ⟨some 25, .mov (.t 24), none⟩,
    ⟨some 26, .load none (.t 5), some (25, false)⟩,
    ⟨some 27, .bin .gtr (.t 26) (.c (.i 9999)), some (25, false)⟩,
    ⟨some 28, .pick (.t 25) (.c (.b true)) (.t 27), none⟩] [3, 4, 5, 6, 28])
  (.cond (.t 28) (.seq (.reg none [⟨some 29, .build [(.i 0), (.i 0), (.i 0), (.sl true [])] [], none⟩,
      ⟨none, .store 4 (.t 6) (.t 29), none⟩,
      ⟨some 7, .mov (.c (.i 2)), none⟩] [6, 7])
    (.ret [6, 7]))
  (.skip)))
  (.seq (.reg none [⟨some 8, .alloc [(.b false)], none⟩,
    ⟨some 9, .alloc [(.b false)], none⟩,
    ⟨none, .store 1 (.t 8) (.c (.b false)), none⟩,
    ⟨none, .store 1 (.t 9) (.c (.b false)), none⟩] [3, 4, 5, 6, 8, 9])
  (.seq (.reg none [⟨some 30, .load (some 4) (.t 3), none⟩,
    ⟨some 31, .mfunc (.func n_term_Shift_1) [(.t 5), (.t 8), (.t 4), (.t 9)], none⟩,
    ⟨some 32, .call (.f n_term_Each) [(.t 30), (.c (.i 0)), (.t 31)], none⟩] [3, 4, 5, 6, 8, 9])
  (.seq (.block 0 (.seq (.reg none [⟨some 34, .load none (.t 8), none⟩,
      ⟨some 33, .mov (.t 34), none⟩] [3, 4, 5, 6, 9, 33])
    (.cond (.t 33) (.seq (.reg none [⟨some 35, .build [(.i 0), (.i 0), (.i 0), (.sl true [])] [], none⟩,
        ⟨none, .store 4 (.t 6) (.t 35), none⟩,
        ⟨some 7, .mov (.c (.i 27)), none⟩] [6, 7])
      (.ret [6, 7]))
    (.seq (.reg none [⟨some 37, .load none (.t 9), none⟩,
        ⟨some 36, .mov (.t 37), none⟩] [3, 4, 5, 6, 36])
      (.cond (.t 36) (.seq (.reg none [⟨some 38, .build [(.i 0), (.i 0), (.i 0), (.sl true [])] [], none⟩,
          ⟨none, .store 4 (.t 6) (.t 38), none⟩,
          ⟨some 7, .mov (.c (.i 5)), none⟩] [6, 7])
        (.ret [6, 7]))
      (.skip))))))
  (.seq (.reg none [⟨some 39, .load (some 4) (.t 3), none⟩,
    ⟨some 40, .load none (.t 4), none⟩,
    ⟨some 41, .load none (.t 5), none⟩,
    ⟨some 42, .call (.f n_term_Moved) [(.t 39), (.t 40), (.t 41)], none⟩,
    ⟨none, .store 4 (.t 6) (.t 42), none⟩,
    ⟨some 7, .mov (.c (.i 0)), none⟩] [6, 7])
  (.ret [6, 7]))))))),
  [.cell 6 (some 4), .t 7], 0⟩

def ir_subst_InstanceL0 : IC :=
  .cut (.seq (.reg none [⟨some 28, .bin .lss (.t 27) (.t 26), none⟩] [2, 4, 5, 6, 25, 26, 27, 28])
    (.seq (.cond (.t 28) (.skip)
    (.exit 0 [2, 4, 5]))
    (.seq (.block 1 (.seq (.reg none [⟨some 29, .iaddr none 4 (.t 25) (.t 27), none⟩,
        ⟨some 30, .load (some 4) (.t 29), none⟩,
        ⟨some 8, .alloc [(.i 0), (.i 0), (.i 0), (.sl true [])], none⟩,
        ⟨none, .store 4 (.t 8) (.t 30), none⟩] [2, 4, 5, 6, 8, 25, 26, 27])
      (.ps [.ownAt 8 3 4] (.seq (.seq (.reg none [⟨some 31, .faddr 0 (.t 2), none⟩,
        ⟨some 32, .load none (.t 31), none⟩,
        ⟨some 33, .bin .neq (.t 32) (.c (.i 2)), none⟩] [2, 4, 5, 6, 8, 25, 26, 27, 33])
      (.cond (.t 33) (.reg none [⟨some 34, .call (.f n_subst_fail) [(.c (.i 23))], none⟩] [2, 4, 5, 6, 8, 25, 26, 27])
      (.skip)))
      (.seq (.reg none [⟨some 36, .faddr 3 (.t 2), none⟩,
        ⟨some 37, .load none (.t 36), none⟩,
        ⟨some 38, .iaddr none 4 (.t 37) (.c (.i 0)), none⟩,
        ⟨some 39, .load (some 4) (.t 38), none⟩,
        ⟨some 40, .call (.f n_term_Simple) [(.t 39)], none⟩,
        ⟨some 35, .mov (.t 40), none⟩,
        ⟨some 41, .extr 0 (.t 35), none⟩,
        ⟨some 42, .extr 1 (.t 35), none⟩,
        ⟨some 9, .alloc [(.sl true []), (.i 0)], none⟩,
        ⟨none, .store 2 (.t 9) (.t 41), none⟩,
        ⟨some 10, .mov (.t 42), none⟩] [2, 4, 5, 6, 8, 9, 10, 25, 26, 27])
      (.ps [.ownAt 9 0 2] (.seq (.seq (.reg none [⟨some 43, .mov (.t 10), none⟩,
        ⟨some 44, .bin .neq (.t 43) (.c (.i 0)), none⟩] [2, 4, 5, 6, 8, 9, 10, 25, 26, 27, 44])
      (.cond (.t 44) (.reg none [⟨some 45, .mov (.t 10), none⟩,
          ⟨some 46, .call (.f n_subst_fail) [(.t 45)], none⟩] [2, 4, 5, 6, 8, 9, 25, 26, 27])
      (.skip)))
      (.seq (.seq (.reg none [⟨some 47, .load (some 2) (.t 9), none⟩,
        ⟨some 48, .call (.f n_subst_Small) [(.t 47)], none⟩,
        ⟨some 49, .not (.t 48), none⟩] [2, 4, 5, 6, 8, 9, 25, 26, 27, 49])
      (.cond (.t 49) (.reg none [⟨some 50, .call (.f n_subst_fail) [(.c (.i 2))], none⟩] [2, 4, 5, 6, 8, 9, 25, 26, 27])
      (.skip)))
      (.reg (some [(0, none), (1, none), (2, none), (3, none), (4, none), (5, none), (6, none), (7, none), (8, none)]) [⟨some 51, .mov (.t 6), none⟩,
        ⟨some 52, .faddr 3 (.t 2), none⟩,
        ⟨some 53, .load none (.t 52), none⟩,
        ⟨some 54, .iaddr none 4 (.t 53) (.c (.i 1)), none⟩,
        ⟨some 55, .load (some 4) (.t 54), none⟩,
        ⟨some 56, .load (some 4) (.t 8), none⟩,
        ⟨some 57, .load (some 2) (.t 9), none⟩,
        ⟨some 58, .call (.f n_subst_work_subst) [(.t 51), (.t 55), (.c (.i 0)), (.t 56), (.t 57)], none⟩,
        ⟨none, .store 4 (.t 2) (.t 58), none⟩] [2, 4, 5, 6, 25, 26, 27])))))))))
    (.reg none [⟨some 59, .bin .add (.t 27) (.c (.i 1)), none⟩,
      ⟨some 27, .mov (.t 59), none⟩] [2, 4, 5, 6, 25, 26, 27])))) [2, 4, 5, 6, 25, 26, 27]
/-- truss/subst.Instance -/
def ir_subst_Instance : IF := ⟨2,
  .seq (.psa (.reg none [⟨some 2, .box 4 (.t 0), none⟩,
    ⟨some 4, .alloc [(.i 0), (.i 0), (.i 0), (.sl true [])], none⟩,
    ⟨some 5, .alloc [(.i 0)], none⟩] [1, 2, 4, 5]) [.ownAt 2 3 4, .ownAt 4 3 4])
  (.seq (.seq (.reg none [⟨some 11, .mov (.t 1), none⟩,
    ⟨some 12, .len false (.t 11), none⟩,
    ⟨some 13, .bin .gtr (.t 12) (.c (.i 600)), none⟩,
    ⟨some 14, .mov (.t 13), none⟩,
    ⟨some 15, .load (some 4) (.t 2), some (14, false)⟩,
    ⟨some 16, .bslice 4 1 [(.i 0), (.i 0), (.i 0), (.sl true [])] [(0, (.t 15))], some (14, false)⟩,
    ⟨some 17, .mov (.t 1), some (14, false)⟩,
    ⟨some 18, .app 4 (.t 16) (.t 17), some (14, false)⟩,
    ⟨some 19, .call (.f n_subst_good) [(.t 18), (.c (.sl true [])), (.c (.sl true []))], some (14, false)⟩,
    ⟨some 20, .not (.t 19), some (14, false)⟩,
    ⟨some 21, .pick (.t 14) (.c (.b true)) (.t 20), none⟩] [1, 2, 4, 5, 21])
  (.cond (.t 21) (.seq (.reg none [⟨some 22, .build [(.i 0), (.i 0), (.i 0), (.sl true [])] [], none⟩,
      ⟨none, .store 4 (.t 4) (.t 22), none⟩,
      ⟨none, .store 1 (.t 5) (.c (.i 2)), none⟩] [4, 5])
    (.ret [4, 5]))
  (.skip)))
  (.dfr [] [1, 2, 4, 5] (.f n_subst_caught) [(.t 4), (.t 5)]
  (.seq (.reg none [⟨some 23, .build [(.i 0)] [], none⟩,
    ⟨some 24, .box 1 (.t 23), none⟩,
    ⟨some 6, .mov (.t 24), none⟩] [1, 2, 4, 5, 6])
  (.seq (.seq (.reg none [⟨some 25, .mov (.t 1), none⟩,
    ⟨some 26, .len false (.t 25), none⟩,
    ⟨some 27, .mov (.c (.i 0)), none⟩] [2, 4, 5, 6, 25, 26, 27])
  (.block 0 (.loop ir_subst_InstanceL0)))
  (.seq (.reg none [⟨some 60, .load (some 4) (.t 2), none⟩,
    ⟨some 61, .call (.f n_term_Copy) [(.t 60)], none⟩,
    ⟨none, .store 4 (.t 4) (.t 61), none⟩,
    ⟨none, .store 1 (.t 5) (.c (.i 0)), none⟩] [4, 5])
  (.ret [4, 5])))))),
  [.cell 4 (some 4), .cell 5 none], 2⟩

/-- (truss/check.kernel).isKind -/
def ir_check_kernel_isKind : IF := ⟨3,
  .seq (.reg none [⟨some 3, .box 2 (.t 0), none⟩,
    ⟨some 5, .box 4 (.t 2), none⟩,
    ⟨some 6, .mov (.c (.i 0)), none⟩] [1, 3, 5])
  (.ps [.ownAt 5 3 4] (.seq (.seq (.reg none [⟨some 7, .faddr 0 (.t 5), none⟩,
    ⟨some 8, .load none (.t 7), none⟩] [1, 3, 5, 8])
  (.block 0 (.seq (.reg none [⟨some 10, .bin .eql (.t 8) (.c (.i 1)), none⟩,
      ⟨some 9, .mov (.t 10), none⟩] [1, 3, 5, 8, 9])
    (.cond (.t 9) (.seq (.reg none [⟨some 6, .mov (.c (.i 0)), none⟩] [6])
      (.ret [6]))
    (.seq (.reg none [⟨some 12, .bin .eql (.t 8) (.c (.i 2)), none⟩,
        ⟨some 11, .mov (.t 12), none⟩] [1, 3, 5, 11])
      (.cond (.t 11) (.seq (.reg none [⟨some 13, .load (some 2) (.t 3), none⟩,
          ⟨some 14, .mov (.t 1), none⟩,
          ⟨some 15, .load (some 4) (.t 5), none⟩,
          ⟨some 16, .load (some 2) (.t 3), none⟩,
          ⟨some 17, .mbm n_check_kernel_isKind [(.t 16)], none⟩,
          ⟨some 18, .call (.f n_check_kernel_pi) [(.t 13), (.t 14), (.t 15), (.t 17)], none⟩,
          ⟨some 6, .mov (.t 18), none⟩] [6])
        (.ret [6]))
      (.skip)))))))
  (.seq (.reg none [⟨some 6, .mov (.c (.i 22)), none⟩] [6])
  (.ret [6])))),
  [.t 6], 0⟩

/-- (truss/check.kernel).pi -/
def ir_check_kernel_pi : IF := ⟨4,
  .seq (.reg none [⟨some 4, .box 2 (.t 0), none⟩,
    ⟨some 6, .box 4 (.t 2), none⟩,
    ⟨some 8, .mov (.c (.i 0)), none⟩] [1, 3, 4, 6])
  (.ps [.ownAt 6 3 4] (.seq (.seq (.reg (some [(0, none), (1, none), (2, none), (3, none), (4, none), (5, none), (6, none), (7, none)]) [⟨some 12, .load (some 2) (.t 4), none⟩,
    ⟨some 13, .mov (.t 1), none⟩,
    ⟨some 14, .faddr 3 (.t 6), none⟩,
    ⟨some 15, .load none (.t 14), none⟩,
    ⟨some 16, .iaddr none 4 (.t 15) (.c (.i 0)), none⟩,
    ⟨some 17, .load (some 4) (.t 16), none⟩,
    ⟨some 18, .call (.f n_check_kernel_isType) [(.t 12), (.t 13), (.t 17)], none⟩,
    ⟨some 9, .mov (.t 18), none⟩] [1, 3, 6, 9])
  (.seq (.reg none [⟨some 19, .mov (.t 9), none⟩,
    ⟨some 20, .bin .neq (.t 19) (.c (.i 0)), none⟩] [1, 3, 6, 9, 20])
  (.cond (.t 20) (.seq (.reg none [⟨some 21, .mov (.t 9), none⟩,
      ⟨some 8, .mov (.t 21), none⟩] [8])
    (.ret [8]))
  (.skip))))
  (.seq (.reg none [⟨some 23, .mov (.t 1), none⟩,
    ⟨some 24, .faddr 3 (.t 6), none⟩,
    ⟨some 25, .load none (.t 24), none⟩,
    ⟨some 26, .iaddr none 4 (.t 25) (.c (.i 0)), none⟩,
    ⟨some 27, .load (some 4) (.t 26), none⟩,
    ⟨some 28, .call (.f n_check_deeper) [(.t 23), (.t 27)], none⟩,
    ⟨some 22, .mov (.t 28), none⟩,
    ⟨some 29, .extr 0 (.t 22), none⟩,
    ⟨some 30, .extr 1 (.t 22), none⟩,
    ⟨some 10, .mov (.t 29), none⟩,
    ⟨some 11, .mov (.t 30), none⟩] [3, 6, 10, 11])
  (.seq (.seq (.reg none [⟨some 31, .mov (.t 11), none⟩,
    ⟨some 32, .bin .neq (.t 31) (.c (.i 0)), none⟩] [3, 6, 10, 11, 32])
  (.cond (.t 32) (.seq (.reg none [⟨some 33, .mov (.t 11), none⟩,
      ⟨some 8, .mov (.t 33), none⟩] [8])
    (.ret [8]))
  (.skip)))
  (.seq (.reg none [⟨some 34, .mov (.t 3), none⟩,
    ⟨some 35, .mov (.t 10), none⟩,
    ⟨some 36, .faddr 3 (.t 6), none⟩,
    ⟨some 37, .load none (.t 36), none⟩,
    ⟨some 38, .iaddr none 4 (.t 37) (.c (.i 1)), none⟩,
    ⟨some 39, .load (some 4) (.t 38), none⟩,
    ⟨some 40, .call (.v (.t 34)) [(.t 35), (.t 39)], none⟩,
    ⟨some 8, .mov (.t 40), none⟩] [8])
  (.ret [8])))))),
  [.t 8], 0⟩

def ir_check_kernel_fitL0 : IC :=
  .cut (.seq (.reg none [⟨some 18, .bin .lss (.t 17) (.t 16), none⟩] [1, 4, 7, 8, 15, 16, 17, 18])
    (.seq (.cond (.t 18) (.skip)
    (.exit 0 [7, 8]))
    (.seq (.block 1 (.seq (.reg none [⟨some 19, .iaddr none 4 (.t 15) (.t 17), none⟩,
        ⟨some 20, .load (some 4) (.t 19), none⟩,
        ⟨some 11, .alloc [(.i 0), (.i 0), (.i 0), (.sl true [])], none⟩,
        ⟨none, .store 4 (.t 11) (.t 20), none⟩] [1, 4, 7, 8, 11, 15, 16, 17])
      (.ps [.ownAt 11 3 4] (.seq (.seq (.reg none [⟨some 21, .faddr 0 (.t 7), none⟩,
        ⟨some 22, .load none (.t 21), none⟩,
        ⟨some 23, .bin .neq (.t 22) (.c (.i 2)), none⟩] [1, 4, 7, 8, 11, 15, 16, 17, 23])
      (.cond (.t 23) (.seq (.reg none [⟨some 24, .build [(.i 0), (.i 0), (.i 0), (.sl true [])] [], none⟩,
          ⟨none, .store 4 (.t 8) (.t 24), none⟩,
          ⟨some 9, .mov (.c (.i 23)), none⟩] [8, 9])
        (.ret [8, 9]))
      (.skip)))
      (.seq (.seq (.reg (some [(0, none), (1, none), (2, none), (3, none), (4, none), (5, none), (6, none), (7, none), (8, none)]) [⟨some 25, .load (some 2) (.t 4), none⟩,
        ⟨some 26, .mov (.t 1), none⟩,
        ⟨some 27, .load (some 4) (.t 11), none⟩,
        ⟨some 28, .faddr 3 (.t 7), none⟩,
        ⟨some 29, .load none (.t 28), none⟩,
        ⟨some 30, .iaddr none 4 (.t 29) (.c (.i 0)), none⟩,
        ⟨some 31, .load (some 4) (.t 30), none⟩,
        ⟨some 32, .call (.f n_check_kernel_isObject) [(.t 25), (.t 26), (.t 27), (.t 31)], none⟩,
        ⟨some 12, .mov (.t 32), none⟩] [1, 4, 7, 8, 11, 12, 15, 16, 17])
      (.seq (.reg none [⟨some 33, .mov (.t 12), none⟩,
        ⟨some 34, .bin .neq (.t 33) (.c (.i 0)), none⟩] [1, 4, 7, 8, 11, 12, 15, 16, 17, 34])
      (.cond (.t 34) (.seq (.reg none [⟨some 35, .build [(.i 0), (.i 0), (.i 0), (.sl true [])] [], none⟩,
          ⟨some 36, .mov (.t 12), none⟩,
          ⟨none, .store 4 (.t 8) (.t 35), none⟩,
          ⟨some 9, .mov (.t 36), none⟩] [8, 9])
        (.ret [8, 9]))
      (.skip))))
      (.seq (.reg none [⟨some 38, .load (some 4) (.t 7), none⟩,
        ⟨some 39, .load (some 4) (.t 11), none⟩,
        ⟨some 40, .bslice 4 1 [(.i 0), (.i 0), (.i 0), (.sl true [])] [(0, (.t 39))], none⟩,
        ⟨some 41, .call (.f n_subst_Instance) [(.t 38), (.t 40)], none⟩,
        ⟨some 37, .mov (.t 41), none⟩,
        ⟨some 42, .extr 0 (.t 37), none⟩,
        ⟨some 43, .extr 1 (.t 37), none⟩,
        ⟨some 13, .alloc [(.i 0), (.i 0), (.i 0), (.sl true [])], none⟩,
        ⟨none, .store 4 (.t 13) (.t 42), none⟩,
        ⟨some 14, .mov (.t 43), none⟩] [1, 4, 7, 8, 13, 14, 15, 16, 17])
      (.ps [.ownAt 13 3 4] (.seq (.seq (.reg none [⟨some 44, .mov (.t 14), none⟩,
        ⟨some 45, .bin .neq (.t 44) (.c (.i 0)), none⟩] [1, 4, 7, 8, 13, 14, 15, 16, 17, 45])
      (.cond (.t 45) (.seq (.reg none [⟨some 46, .build [(.i 0), (.i 0), (.i 0), (.sl true [])] [], none⟩,
          ⟨some 47, .mov (.t 14), none⟩,
          ⟨none, .store 4 (.t 8) (.t 46), none⟩,
          ⟨some 9, .mov (.t 47), none⟩] [8, 9])
        (.ret [8, 9]))
      (.skip)))
      (.reg none [⟨some 48, .load (some 4) (.t 13), none⟩,
        ⟨none, .store 4 (.t 7) (.t 48), none⟩] [1, 4, 7, 8, 15, 16, 17])))))))))
    (.reg none [⟨some 49, .bin .add (.t 17) (.c (.i 1)), none⟩,
      ⟨some 17, .mov (.t 49), none⟩] [1, 4, 7, 8, 15, 16, 17])))) [1, 4, 7, 8, 15, 16, 17]
/-- (truss/check.kernel).fit -/
def ir_check_kernel_fit : IF := ⟨4,
  .seq (.reg none [⟨some 4, .box 2 (.t 0), none⟩,
    ⟨some 7, .box 4 (.t 3), none⟩,
    ⟨some 8, .alloc [(.i 0), (.i 0), (.i 0), (.sl true [])], none⟩,
    ⟨some 9, .mov (.c (.i 0)), none⟩] [1, 2, 4, 7, 8])
  (.ps [.ownAt 7 3 4, .ownAt 8 3 4] (.seq (.seq (.reg none [⟨some 15, .mov (.t 2), none⟩,
    ⟨some 16, .len false (.t 15), none⟩,
    ⟨some 17, .mov (.c (.i 0)), none⟩] [1, 4, 7, 8, 15, 16, 17])
  (.block 0 (.loop ir_check_kernel_fitL0)))
  (.seq (.reg none [⟨some 50, .load (some 4) (.t 7), none⟩,
    ⟨none, .store 4 (.t 8) (.t 50), none⟩,
    ⟨some 9, .mov (.c (.i 0)), none⟩] [8, 9])
  (.ret [8, 9])))),
  [.cell 8 (some 4), .t 9], 0⟩

/-- slices.Grow[[]truss/api.Term,truss/api.Term] -/
def ir_slices_Grow_of_Term_api_Term : IF := ⟨2,
  .seq (.reg none [⟨some 4, .mov (.c (.sl true [])), none⟩] [0, 1])
  (.seq (.seq (.reg none [⟨some 5, .mov (.t 1), none⟩,
    ⟨some 6, .bin .lss (.t 5) (.c (.i 0)), none⟩] [0, 1, 6])
  (.cond (.t 6) (.reg none [⟨some 7, .miface 9 (.c (.s ⟨#[99, 97, 110, 110, 111, 116, 32, 98, 101, 32, 110, 101, 103, 97, 116, 105, 118, 101]⟩)), none⟩,
      ⟨none, .panic (.t 7), none⟩] [0, 1])
  (.skip)))
  (.seq (.seq (.reg none [⟨some 8, .mov (.t 1), none⟩,
    ⟨some 9, .mov (.t 0), none⟩,
    ⟨some 10, .cap (.t 9), none⟩,
    ⟨some 11, .mov (.t 0), none⟩,
    ⟨some 12, .len false (.t 11), none⟩,
    ⟨some 13, .bin .sub (.t 10) (.t 12), none⟩,
    ⟨some 14, .bin .sub (.t 8) (.t 13), none⟩,
    ⟨some 1, .mov (.t 14), none⟩] [0, 1])
  (.seq (.reg none [⟨some 15, .mov (.t 1), none⟩,
    ⟨some 16, .bin .gtr (.t 15) (.c (.i 0)), none⟩] [0, 1, 16])
  (.cond (.t 16) (.reg none [⟨some 17, .mov (.t 0), none⟩,
      ⟨some 18, .mov (.t 0), none⟩,
      ⟨some 19, .cap (.t 18), none⟩,
      ⟨some 20, .slice 4 (.t 17) none (some (.t 19)) none, none⟩,
      ⟨some 21, .mov (.t 1), none⟩,
      ⟨some 22, .appr 4 [(.i 0), (.i 0), (.i 0), (.sl true [])] (.t 20) (.t 21), none⟩,
      ⟨some 23, .mov (.t 0), none⟩,
      ⟨some 24, .len false (.t 23), none⟩,
      ⟨some 25, .slice 4 (.t 22) none (some (.t 24)) none, none⟩,
      ⟨some 0, .mov (.t 25), none⟩] [0])
  (.skip))))
  (.seq (.reg none [⟨some 26, .mov (.t 0), none⟩,
    ⟨some 4, .mov (.t 26), none⟩] [4])
  (.ret [4])))),
  [.t 4], 7⟩

/-- truss/lexis.nameByte -/
def ir_lexis_nameByte : IF := ⟨1,
  .seq (.reg none [⟨some 2, .mov (.c (.b false)), none⟩] [0])
  (.seq (.reg none [⟨some 3, .mov (.t 0), none⟩,
    ⟨some 4, .call (.f n_lexis_small) [(.t 3)], none⟩,
    ⟨some 5, .mov (.t 4), none⟩,
    ⟨some 6, .mov (.t 0), some (5, false)⟩,
    ⟨some 7, .call (.f n_lexis_capital) [(.t 6)], some (5, false)⟩,
    ⟨some 8, .pick (.t 5) (.c (.b true)) (.t 7), none⟩,
    ⟨some 9, .mov (.t 8), none⟩,
    ⟨some 10, .mov (.t 0), some (9, false)⟩,
    ⟨some 11, .call (.f n_lexis_digit) [(.t 10)], some (9, false)⟩,
    ⟨some 12, .pick (.t 9) (.c (.b true)) (.t 11), none⟩,
    ⟨some 13, .mov (.t 12), none⟩,
    ⟨some 14, .mov (.t 0), some (13, false)⟩,
    ⟨some 15, .bin .eql (.t 14) (.c (.k (.int .u8 95))), some (13, false)⟩,
    ⟨some 16, .pick (.t 13) (.c (.b true)) (.t 15), none⟩,
    ⟨some 17, .mov (.t 16), none⟩,
    ⟨some 18, .mov (.t 0), some (17, false)⟩,
    ⟨some 19, .bin .eql (.t 18) (.c (.k (.int .u8 39))), some (17, false)⟩,
    ⟨some 20, .pick (.t 17) (.c (.b true)) (.t 19), none⟩,
    ⟨some 2, .mov (.t 20), none⟩] [2])
  (.ret [2])),
  [.t 2], 0⟩

/-- internal/strconv.FormatInt -/
def ir_internal_strconv_FormatInt : IF := ⟨2,
  .seq (.reg none [⟨some 4, .mov (.c (.s ⟨#[]⟩)), none⟩] [0, 1])
  (.seq (.seq (.reg none [⟨some 10, .mov (.t 1), none⟩,
    ⟨some 11, .bin .eql (.t 10) (.c (.i 10)), none⟩] [0, 1, 11])
  (.cond (.t 11) (.seq (.seq (.reg none [⟨some 12, .mov (.t 0), none⟩,
      ⟨some 13, .bin .leq (.c (.i 0)) (.t 12), none⟩,
      ⟨some 14, .mov (.t 13), none⟩,
      ⟨some 15, .mov (.t 0), some (14, true)⟩,
      ⟨some 16, .bin .lss (.t 15) (.c (.i 100)), some (14, true)⟩,
      ⟨some 17, .pick (.t 14) (.t 16) (.c (.b false)), none⟩] [0, 17])
    (.cond (.t 17) (.seq (.reg none [⟨some 18, .mov (.t 0), none⟩,
        ⟨some 19, .call (.f n_internal_strconv_small) [(.t 18)], none⟩,
        ⟨some 4, .mov (.t 19), none⟩] [4])
      (.ret [4]))
    (.skip)))
    (.seq (.reg none [⟨some 5, .alloc [(.k (.int .u8 0)), (.k (.int .u8 0)), (.k (.int .u8 0)), (.k (.int .u8 0)), (.k (.int .u8 0)), (.k (.int .u8 0)), (.k (.int .u8 0)), (.k (.int .u8 0)), (.k (.int .u8 0)), (.k (.int .u8 0)), (.k (.int .u8 0)), (.k (.int .u8 0)), (.k (.int .u8 0)), (.k (.int .u8 0)), (.k (.int .u8 0)), (.k (.int .u8 0)), (.k (.int .u8 0)), (.k (.int .u8 0)), (.k (.int .u8 0)), (.k (.int .u8 0)), (.k (.int .u8 0)), (.k (.int .u8 0)), (.k (.int .u8 0)), (.k (.int .u8 0))], none⟩] [0])
    (.seq (.reg none [⟨some 20, .mov (.t 0), none⟩,
      ⟨some 21, .conv .u64 (.t 20), none⟩,
      ⟨some 6, .mov (.t 21), none⟩] [0, 6])
    (.seq (.seq (.reg none [⟨some 22, .mov (.t 0), none⟩,
      ⟨some 23, .bin .lss (.t 22) (.c (.i 0)), none⟩] [6, 23])
    (.cond (.t 23) (.reg none [⟨some 24, .mov (.t 6), none⟩,
        ⟨some 25, .neg (.t 24), none⟩,
        ⟨some 6, .mov (.t 25), none⟩] [6])
    (.skip)))
    (.seq (.reg none [⟨some 26, .mov (.t 6), none⟩,
      ⟨some 27, .call (.f n_internal_strconv_numDigits) [(.t 26)], none⟩,
      ⟨some 7, .mov (.t 27), none⟩] [])
    (.seq (.stuck)
    (.seq (.seq (.reg none [⟨some 33, .mov (.t 0), none⟩,
      ⟨some 34, .bin .lss (.t 33) (.c (.i 0)), none⟩] [5, 34])
    (.cond (.t 34) (.seq (.reg none [⟨some 35, .iaddr (some 24) 1 (.t 5) (.c (.i 0)), none⟩,
        ⟨none, .store 1 (.t 35) (.c (.k (.int .u8 45))), none⟩] [])
      (.seq (.stuck)
      (.ret [4])))
    (.skip)))
    (.seq (.stuck)
    (.ret [4])))))))))
  (.skip)))
  (.seq (.reg none [⟨some 45, .mov (.t 0), none⟩,
    ⟨some 46, .conv .u64 (.t 45), none⟩,
    ⟨some 47, .mov (.t 1), none⟩,
    ⟨some 48, .mov (.t 0), none⟩,
    ⟨some 49, .bin .lss (.t 48) (.c (.i 0)), none⟩,
    ⟨some 50, .call (.f n_internal_strconv_formatBits) [(.c (.sl true [])), (.t 46), (.t 47), (.t 49), (.c (.b false))], none⟩,
    ⟨some 44, .mov (.t 50), none⟩,
    ⟨some 51, .extr 0 (.t 44), none⟩,
    ⟨some 52, .extr 1 (.t 44), none⟩,
    ⟨some 8, .mov (.t 51), none⟩,
    ⟨some 9, .mov (.t 52), none⟩] [9])
  (.seq (.reg none [⟨some 53, .mov (.t 9), none⟩,
    ⟨some 4, .mov (.t 53), none⟩] [4])
  (.ret [4])))),
  [.t 4], 0⟩

/-- truss/term.Moved -/
def ir_term_Moved : IF := ⟨3,
  .seq (.reg none [⟨some 3, .box 4 (.t 0), none⟩,
    ⟨some 4, .box 1 (.t 1), none⟩,
    ⟨some 5, .box 1 (.t 2), none⟩,
    ⟨some 6, .alloc [(.i 0), (.i 0), (.i 0), (.sl true [])], none⟩] [3, 4, 5, 6])
  (.ps [.ownAt 3 3 4, .ownAt 6 3 4] (.seq (.reg none [⟨some 7, .load (some 4) (.t 3), none⟩,
    ⟨some 8, .mfunc (.func n_term_Moved_1) [(.t 5), (.t 4)], none⟩,
    ⟨some 9, .call (.f n_term_Map) [(.t 7), (.c (.i 0)), (.t 8)], none⟩,
    ⟨none, .store 4 (.t 6) (.t 9), none⟩] [6])
  (.ret [6]))),
  [.cell 6 (some 4)], 0⟩

/-- truss/term.Shift$1 -/
def ir_term_Shift_1 : IF := ⟨6,
  .seq (.reg none [⟨some 6, .box 4 (.t 0), none⟩] [1, 2, 3, 4, 5, 6])
  (.ps [.ownAt 6 3 4] (.seq (.reg none [⟨some 9, .faddr 2 (.t 6), none⟩,
    ⟨some 10, .load none (.t 9), none⟩,
    ⟨some 11, .mov (.t 1), none⟩,
    ⟨some 12, .bin .sub (.t 10) (.t 11), none⟩,
    ⟨some 8, .mov (.t 12), none⟩] [2, 3, 4, 5, 6, 8])
  (.seq (.reg none [⟨some 13, .faddr 0 (.t 6), none⟩,
    ⟨some 14, .load none (.t 13), none⟩,
    ⟨some 15, .bin .eql (.t 14) (.c (.i 4)), none⟩,
    ⟨some 16, .mov (.t 15), none⟩,
    ⟨some 17, .faddr 1 (.t 6), some (16, true)⟩,
    ⟨some 18, .load none (.t 17), some (16, true)⟩,
    ⟨some 19, .bin .eql (.t 18) (.c (.i 1)), some (16, true)⟩,
    ⟨some 20, .pick (.t 16) (.t 19) (.c (.b false)), none⟩,
    ⟨some 21, .mov (.t 20), none⟩,
    ⟨some 22, .mov (.t 8), some (21, true)⟩,
    ⟨some 23, .load none (.t 2), some (21, true)⟩,
    ⟨some 24, .bin .geq (.t 22) (.t 23), some (21, true)⟩,
    ⟨some 25, .pick (.t 21) (.t 24) (.c (.b false)), none⟩] [2, 3, 4, 5, 6, 8, 25])
  (.cond (.t 25) (.seq (.reg none [⟨some 26, .load none (.t 3), none⟩,
      ⟨some 27, .mov (.t 26), none⟩,
      ⟨some 28, .load none (.t 4), some (27, false)⟩,
      ⟨some 29, .bin .lss (.t 28) (.c (.i 0)), some (27, false)⟩,
      ⟨some 30, .mov (.t 29), some (27, false)⟩,
      ⟨some 31, .mov (.t 8), some (30, true)⟩,
      ⟨some 32, .load none (.t 2), some (30, true)⟩,
      ⟨some 33, .load none (.t 4), some (30, true)⟩,
      ⟨some 34, .bin .sub (.t 32) (.t 33), some (30, true)⟩,
      ⟨some 35, .bin .lss (.t 31) (.t 34), some (30, true)⟩,
      ⟨some 36, .pick (.t 30) (.t 35) (.c (.b false)), some (27, false)⟩,
      ⟨some 37, .pick (.t 27) (.c (.b true)) (.t 36), none⟩,
      ⟨none, .store 1 (.t 3) (.t 37), none⟩] [4, 5, 6])
    (.reg none [⟨some 38, .load none (.t 5), none⟩,
      ⟨some 39, .mov (.t 38), none⟩,
      ⟨some 40, .faddr 2 (.t 6), some (39, false)⟩,
      ⟨some 41, .load none (.t 40), some (39, false)⟩,
      ⟨some 42, .load none (.t 4), some (39, false)⟩,
      ⟨some 43, .bin .add (.t 41) (.t 42), some (39, false)⟩,
      ⟨some 44, .bin .gtr (.t 43) (.c (.i 9999)), some (39, false)⟩,
      ⟨some 45, .pick (.t 39) (.c (.b true)) (.t 44), none⟩,
      ⟨none, .store 1 (.t 5) (.t 45), none⟩] []))
  (.skip))))),
  [], 0⟩

def ir_subst_goodL0 : IC :=
  .cut (.seq (.reg none [⟨some 15, .bin .lss (.t 14) (.t 13), none⟩] [1, 2, 12, 13, 14, 15])
    (.seq (.cond (.t 15) (.skip)
    (.exit 0 [1, 2]))
    (.seq (.block 1 (.seq (.reg none [⟨some 16, .iaddr none 4 (.t 12) (.t 14), none⟩,
        ⟨some 17, .load (some 4) (.t 16), none⟩,
        ⟨some 8, .alloc [(.i 0), (.i 0), (.i 0), (.sl true [])], none⟩,
        ⟨none, .store 4 (.t 8) (.t 17), none⟩] [1, 2, 8, 12, 13, 14])
      (.ps [.ownAt 8 3 4] (.seq (.reg none [⟨some 18, .load (some 4) (.t 8), none⟩,
        ⟨some 19, .call (.f n_term_Check) [(.t 18)], none⟩,
        ⟨some 20, .bin .neq (.t 19) (.c (.i 0)), none⟩] [1, 2, 12, 13, 14, 20])
      (.cond (.t 20) (.seq (.reg none [⟨some 6, .mov (.c (.b false)), none⟩] [6])
        (.ret [6]))
      (.skip))))))
    (.reg none [⟨some 21, .bin .add (.t 14) (.c (.i 1)), none⟩,
      ⟨some 14, .mov (.t 21), none⟩] [1, 2, 12, 13, 14])))) [1, 2, 12, 13, 14]
/-- truss/subst.good -/
def ir_subst_good : IF := ⟨3,
  .seq (.reg none [⟨some 6, .mov (.c (.b false)), none⟩] [0, 1, 2])
  (.seq (.seq (.reg none [⟨some 9, .mov (.t 0), none⟩,
    ⟨some 10, .len false (.t 9), none⟩,
    ⟨some 11, .bin .gtr (.t 10) (.c (.i 601)), none⟩] [0, 1, 2, 11])
  (.cond (.t 11) (.seq (.reg none [⟨some 6, .mov (.c (.b false)), none⟩] [6])
    (.ret [6]))
  (.skip)))
  (.seq (.seq (.reg none [⟨some 12, .mov (.t 0), none⟩,
    ⟨some 13, .len false (.t 12), none⟩,
    ⟨some 14, .mov (.c (.i 0)), none⟩] [1, 2, 12, 13, 14])
  (.block 0 (.loop ir_subst_goodL0)))
  (.seq (.seq (.reg none [⟨some 22, .mov (.t 1), none⟩,
    ⟨some 23, .call (.f n_slices_ContainsFunc_of_Simple_api_Simple) [(.t 22), (.c (.fn (.func n_subst_good_1) []))], none⟩] [2, 23])
  (.cond (.t 23) (.seq (.reg none [⟨some 6, .mov (.c (.b false)), none⟩] [6])
    (.ret [6]))
  (.skip)))
  (.seq (.reg none [⟨some 24, .mov (.t 2), none⟩,
    ⟨some 25, .call (.f n_slices_ContainsFunc_of_int_int) [(.t 24), (.c (.fn (.func n_subst_good_2) []))], none⟩,
    ⟨some 26, .not (.t 25), none⟩,
    ⟨some 6, .mov (.t 26), none⟩] [6])
  (.ret [6]))))),
  [.t 6], 0⟩

/-- truss/subst.caught -/
def ir_subst_caught : IF := ⟨2,
  .seq (.reg none [⟨some 7, .recover, none⟩] [7])
  (.block 0 (.seq (.reg none [⟨some 9, .isnil false (.t 7), none⟩] [7, 9])
    (.cond (.t 9) (.reg none [⟨some 4, .mov (.t 7), none⟩] [])
    (.seq (.reg none [⟨some 10, .tas 447 (.agg [(.i 0)]) true (.t 7), none⟩,
        ⟨some 11, .extr 1 (.t 10), none⟩,
        ⟨some 12, .extr 0 (.t 10), none⟩] [7, 11, 12])
      (.cond (.t 11) (.seq (.reg none [⟨some 5, .alloc [(.i 0)], none⟩,
          ⟨none, .store 1 (.t 5) (.t 12), none⟩] [])
        (.stuck))
      (.seq (.reg none [⟨some 6, .mov (.t 7), none⟩] [6])
        (.reg none [⟨some 8, .mov (.t 6), none⟩,
          ⟨none, .panic (.t 8), none⟩] []))))))),
  [], 3⟩

/-- truss/subst.Small -/
def ir_subst_Small : IF := ⟨1,
  .seq (.reg none [⟨some 1, .box 2 (.t 0), none⟩,
    ⟨some 2, .mov (.c (.b false)), none⟩] [1])
  (.ps [.ownAt 1 0 2] (.seq (.reg none [⟨some 3, .alloc [(.i 0)], none⟩,
    ⟨none, .store 1 (.t 3) (.c (.i 0)), none⟩] [1, 3])
  (.seq (.reg none [⟨some 4, .load (some 2) (.t 1), none⟩,
    ⟨some 5, .call (.f n_subst_small) [(.t 4), (.t 3)], none⟩,
    ⟨some 2, .mov (.t 5), none⟩] [2])
  (.ret [2])))),
  [.t 2], 0⟩

def ir_subst_work_substL0 : IC :=
  .cut (.seq (.reg none [⟨some 38, .bin .lss (.t 37) (.t 36), none⟩] [0, 2, 6, 8, 9, 10, 11, 35, 36, 37, 38])
    (.seq (.cond (.t 38) (.skip)
    (.exit 0 [0, 2, 6, 8, 9, 10, 11]))
    (.seq (.block 1 (.seq (.reg none [⟨some 39, .mov (.t 37), none⟩,
        ⟨some 40, .iaddr none 4 (.t 35) (.t 37), none⟩,
        ⟨some 41, .load (some 4) (.t 40), none⟩,
        ⟨some 13, .alloc [(.i 0), (.i 0), (.i 0), (.sl true [])], none⟩,
        ⟨some 12, .mov (.t 39), none⟩,
        ⟨none, .store 4 (.t 13) (.t 41), none⟩] [0, 2, 6, 8, 9, 10, 11, 12, 13, 35, 36, 37])
      (.ps [.ownAt 13 3 4] (.reg (some [(0, none), (1, none), (2, none), (3, none), (4, none), (5, none), (6, none), (7, none), (8, none), (9, none), (10, none), (11, none), (12, none), (13, none), (14, none), (15, none)]) [⟨some 42, .faddr 3 (.t 11), none⟩,
        ⟨some 43, .load none (.t 42), none⟩,
        ⟨some 44, .mov (.t 0), none⟩,
        ⟨some 45, .load (some 4) (.t 13), none⟩,
        ⟨some 46, .mov (.t 2), none⟩,
        ⟨some 47, .load (some 4) (.t 6), none⟩,
        ⟨some 48, .mov (.t 12), none⟩,
        ⟨some 49, .callq (.f n_term_Under) [(.t 47), (.t 48)], none⟩,
        ⟨some 50, .bin .add (.t 46) (.t 49), none⟩,
        ⟨some 51, .load (some 4) (.t 8), none⟩,
        ⟨some 52, .load (some 2) (.t 9), none⟩,
        ⟨some 53, .callq (.f n_subst_work_subst) [(.t 44), (.t 45), (.t 50), (.t 51), (.t 52)], none⟩,
        ⟨some 54, .bslice 4 1 [(.i 0), (.i 0), (.i 0), (.sl true [])] [(0, (.t 53))], none⟩,
        ⟨some 55, .app 4 (.t 43) (.t 54), none⟩,
        ⟨some 56, .faddr 3 (.t 11), none⟩,
        ⟨none, .store 1 (.t 56) (.t 55), none⟩] [0, 2, 6, 8, 9, 10, 11, 35, 36, 37]))))
    (.reg none [⟨some 57, .bin .add (.t 37) (.c (.i 1)), none⟩,
      ⟨some 37, .mov (.t 57), none⟩] [0, 2, 6, 8, 9, 10, 11, 35, 36, 37])))) [0, 2, 6, 8, 9, 10, 11, 35, 36, 37]
/-- (*truss/subst.work).subst -/
def ir_subst_work_subst : IF := ⟨5,
  .seq (.reg none [⟨some 6, .box 4 (.t 1), none⟩,
    ⟨some 8, .box 4 (.t 3), none⟩,
    ⟨some 9, .box 2 (.t 4), none⟩,
    ⟨some 10, .alloc [(.i 0), (.i 0), (.i 0), (.sl true [])], none⟩] [0, 2, 6, 8, 9, 10])
  (.ps [.ownAt 6 3 4, .ownAt 8 3 4, .ownAt 9 0 2, .ownAt 10 3 4] (.seq (.seq (.reg none [⟨some 14, .mov (.t 0), none⟩,
    ⟨some 15, .nilc (.t 14), none⟩,
    ⟨some 16, .faddr 0 (.t 15), none⟩,
    ⟨some 17, .load none (.t 16), none⟩,
    ⟨some 18, .bin .add (.t 17) (.c (.i 1)), none⟩,
    ⟨some 19, .nilc (.t 14), none⟩,
    ⟨some 20, .faddr 0 (.t 19), none⟩,
    ⟨none, .store 1 (.t 20) (.t 18), none⟩] [0, 2, 6, 8, 9, 10])
  (.seq (.reg none [⟨some 21, .mov (.t 0), none⟩,
    ⟨some 22, .nilc (.t 21), none⟩,
    ⟨some 23, .faddr 0 (.t 22), none⟩,
    ⟨some 24, .load none (.t 23), none⟩,
    ⟨some 25, .bin .gtr (.t 24) (.c (.i 20000)), none⟩] [0, 2, 6, 8, 9, 10, 25])
  (.cond (.t 25) (.reg none [⟨some 26, .call (.f n_subst_fail) [(.c (.i 5))], none⟩] [0, 2, 6, 8, 9, 10])
  (.skip))))
  (.seq (.reg none [⟨some 27, .faddr 0 (.t 6), none⟩,
    ⟨some 28, .load none (.t 27), none⟩,
    ⟨some 29, .faddr 1 (.t 6), none⟩,
    ⟨some 30, .load none (.t 29), none⟩,
    ⟨some 31, .faddr 2 (.t 6), none⟩,
    ⟨some 32, .load none (.t 31), none⟩,
    ⟨some 33, .build [(.i 0), (.i 0), (.i 0), (.sl true [])] [(0, 1, (.t 28)), (1, 1, (.t 30)), (2, 1, (.t 32))], none⟩,
    ⟨some 11, .alloc [(.i 0), (.i 0), (.i 0), (.sl true [])], none⟩,
    ⟨none, .store 4 (.t 11) (.t 33), none⟩] [0, 2, 6, 8, 9, 10, 11])
  (.ps [.ownAt 11 3 4] (.seq (.seq (.reg none [⟨some 34, .faddr 3 (.t 6), none⟩,
    ⟨some 35, .load none (.t 34), none⟩,
    ⟨some 36, .len false (.t 35), none⟩,
    ⟨some 37, .mov (.c (.i 0)), none⟩] [0, 2, 6, 8, 9, 10, 11, 35, 36, 37])
  (.block 0 (.loop ir_subst_work_substL0)))
  (.seq (.seq (.reg none [⟨some 58, .faddr 0 (.t 6), none⟩,
    ⟨some 59, .load none (.t 58), none⟩,
    ⟨some 60, .bin .eql (.t 59) (.c (.i 4)), none⟩,
    ⟨some 61, .mov (.t 60), none⟩,
    ⟨some 62, .faddr 1 (.t 6), some (61, true)⟩,
    ⟨some 63, .load none (.t 62), some (61, true)⟩,
    ⟨some 64, .bin .eql (.t 63) (.c (.i 1)), some (61, true)⟩,
    ⟨some 65, .pick (.t 61) (.t 64) (.c (.b false)), none⟩] [0, 2, 6, 8, 9, 10, 11, 65])
  (.cond (.t 65) (.seq (.seq (.reg none [⟨some 66, .faddr 2 (.t 6), none⟩,
      ⟨some 67, .load none (.t 66), none⟩,
      ⟨some 68, .mov (.t 2), none⟩,
      ⟨some 69, .bin .eql (.t 67) (.t 68), none⟩] [0, 2, 6, 8, 9, 10, 11, 69])
    (.cond (.t 69) (.seq (.reg (some [(0, none), (1, none), (2, none), (3, none), (4, none), (5, none), (6, none), (7, none), (8, none), (9, none)]) [⟨some 70, .mov (.t 0), none⟩,
        ⟨some 71, .load (some 4) (.t 8), none⟩,
        ⟨some 72, .mov (.t 2), none⟩,
        ⟨some 73, .callq (.f n_subst_moved) [(.t 71), (.t 72)], none⟩,
        ⟨some 74, .faddr 3 (.t 11), none⟩,
        ⟨some 75, .load none (.t 74), none⟩,
        ⟨some 76, .load (some 2) (.t 9), none⟩,
        ⟨some 77, .call (.f n_subst_work_apply) [(.t 70), (.t 73), (.t 75), (.t 76)], none⟩,
        ⟨some 78, .call (.f n_subst_kept) [(.t 77)], none⟩,
        ⟨none, .store 4 (.t 10) (.t 78), none⟩] [10])
      (.ret [10]))
    (.skip)))
    (.seq (.reg none [⟨some 79, .faddr 2 (.t 6), none⟩,
      ⟨some 80, .load none (.t 79), none⟩,
      ⟨some 81, .mov (.t 2), none⟩,
      ⟨some 82, .bin .gtr (.t 80) (.t 81), none⟩] [10, 11, 82])
    (.cond (.t 82) (.reg none [⟨some 83, .faddr 2 (.t 11), none⟩,
        ⟨some 84, .load none (.t 83), none⟩,
        ⟨some 85, .bin .sub (.t 84) (.c (.i 1)), none⟩,
        ⟨some 86, .faddr 2 (.t 11), none⟩,
        ⟨none, .store 1 (.t 86) (.t 85), none⟩] [10, 11])
    (.skip))))
  (.skip)))
  (.seq (.reg none [⟨some 87, .load (some 4) (.t 11), none⟩,
    ⟨some 88, .call (.f n_subst_kept) [(.t 87)], none⟩,
    ⟨none, .store 4 (.t 10) (.t 88), none⟩] [10])
  (.ret [10])))))))),
  [.cell 10 (some 4)], 0⟩

/-- internal/strconv.small -/
def ir_internal_strconv_small : IF := ⟨1,
  .seq (.reg none [⟨some 2, .mov (.c (.s ⟨#[]⟩)), none⟩] [0])
  (.seq (.seq (.reg none [⟨some 3, .mov (.t 0), none⟩,
    ⟨some 4, .bin .lss (.t 3) (.c (.i 10)), none⟩] [0, 4])
  (.cond (.t 4) (.seq (.reg none [⟨some 5, .mov (.t 0), none⟩,
      ⟨some 6, .mov (.t 0), none⟩,
      ⟨some 7, .bin .add (.t 6) (.c (.i 1)), none⟩,
      ⟨some 8, .slice 0 (.c (.s ⟨#[48, 49, 50, 51, 52, 53, 54, 55, 56, 57, 97, 98, 99, 100, 101, 102, 103, 104, 105, 106, 107, 108, 109, 110, 111, 112, 113, 114, 115, 116, 117, 118, 119, 120, 121, 122]⟩)) (some (.t 5)) (some (.t 7)) none, none⟩,
      ⟨some 2, .mov (.t 8), none⟩] [2])
    (.ret [2]))
  (.skip)))
  (.seq (.reg none [⟨some 9, .mov (.t 0), none⟩,
    ⟨some 10, .bin .mul (.t 9) (.c (.i 2)), none⟩,
    ⟨some 11, .mov (.t 0), none⟩,
    ⟨some 12, .bin .mul (.t 11) (.c (.i 2)), none⟩,
    ⟨some 13, .bin .add (.t 12) (.c (.i 2)), none⟩,
    ⟨some 14, .slice 0 (.c (.s ⟨#[48, 48, 48, 49, 48, 50, 48, 51, 48, 52, 48, 53, 48, 54, 48, 55, 48, 56, 48, 57, 49, 48, 49, 49, 49, 50, 49, 51, 49, 52, 49, 53, 49, 54, 49, 55, 49, 56, 49, 57, 50, 48, 50, 49, 50, 50, 50, 51, 50, 52, 50, 53, 50, 54, 50, 55, 50, 56, 50, 57, 51, 48, 51, 49, 51, 50, 51, 51, 51, 52, 51, 53, 51, 54, 51, 55, 51, 56, 51, 57, 52, 48, 52, 49, 52, 50, 52, 51, 52, 52, 52, 53, 52, 54, 52, 55, 52, 56, 52, 57, 53, 48, 53, 49, 53, 50, 53, 51, 53, 52, 53, 53, 53, 54, 53, 55, 53, 56, 53, 57, 54, 48, 54, 49, 54, 50, 54, 51, 54, 52, 54, 53, 54, 54, 54, 55, 54, 56, 54, 57, 55, 48, 55, 49, 55, 50, 55, 51, 55, 52, 55, 53, 55, 54, 55, 55, 55, 56, 55, 57, 56, 48, 56, 49, 56, 50, 56, 51, 56, 52, 56, 53, 56, 54, 56, 55, 56, 56, 56, 57, 57, 48, 57, 49, 57, 50, 57, 51, 57, 52, 57, 53, 57, 54, 57, 55, 57, 56, 57, 57]⟩)) (some (.t 10)) (some (.t 13)) none, none⟩,
    ⟨some 2, .mov (.t 14), none⟩] [2])
  (.ret [2]))),
  [.t 2], 0⟩

/-- truss/term.Moved$1 -/
def ir_term_Moved_1 : IF := ⟨4,
  .seq (.reg none [⟨some 4, .box 4 (.t 0), none⟩,
    ⟨some 6, .alloc [(.i 0), (.i 0), (.i 0), (.sl true [])], none⟩] [1, 2, 3, 4, 6])
  (.ps [.ownAt 4 3 4, .ownAt 6 3 4] (.seq (.seq (.reg none [⟨some 7, .faddr 0 (.t 4), none⟩,
    ⟨some 8, .load none (.t 7), none⟩,
    ⟨some 9, .bin .eql (.t 8) (.c (.i 4)), none⟩,
    ⟨some 10, .mov (.t 9), none⟩,
    ⟨some 11, .faddr 1 (.t 4), some (10, true)⟩,
    ⟨some 12, .load none (.t 11), some (10, true)⟩,
    ⟨some 13, .bin .eql (.t 12) (.c (.i 1)), some (10, true)⟩,
    ⟨some 14, .pick (.t 10) (.t 13) (.c (.b false)), none⟩,
    ⟨some 15, .mov (.t 14), none⟩,
    ⟨some 16, .faddr 2 (.t 4), some (15, true)⟩,
    ⟨some 17, .load none (.t 16), some (15, true)⟩,
    ⟨some 18, .mov (.t 1), some (15, true)⟩,
    ⟨some 19, .bin .sub (.t 17) (.t 18), some (15, true)⟩,
    ⟨some 20, .load none (.t 2), some (15, true)⟩,
    ⟨some 21, .bin .geq (.t 19) (.t 20), some (15, true)⟩,
    ⟨some 22, .pick (.t 15) (.t 21) (.c (.b false)), none⟩] [3, 4, 6, 22])
  (.cond (.t 22) (.reg none [⟨some 23, .faddr 2 (.t 4), none⟩,
      ⟨some 24, .load none (.t 23), none⟩,
      ⟨some 25, .load none (.t 3), none⟩,
      ⟨some 26, .bin .add (.t 24) (.t 25), none⟩,
      ⟨some 27, .faddr 2 (.t 4), none⟩,
      ⟨none, .store 1 (.t 27) (.t 26), none⟩] [4, 6])
  (.skip)))
  (.seq (.reg none [⟨some 28, .load (some 4) (.t 4), none⟩,
    ⟨none, .store 4 (.t 6) (.t 28), none⟩] [6])
  (.ret [6])))),
  [.cell 6 (some 4)], 0⟩

/-- slices.ContainsFunc[[]truss/api.Simple,truss/api.Simple] -/
def ir_slices_ContainsFunc_of_Simple_api_Simple : IF := ⟨2,
  .seq (.reg none [⟨some 4, .mov (.c (.b false)), none⟩] [0, 1])
  (.seq (.reg none [⟨some 5, .mov (.t 0), none⟩,
    ⟨some 6, .mov (.t 1), none⟩,
    ⟨some 7, .call (.f n_slices_IndexFunc_of_Simple_api_Simple) [(.t 5), (.t 6)], none⟩,
    ⟨some 8, .bin .geq (.t 7) (.c (.i 0)), none⟩,
    ⟨some 4, .mov (.t 8), none⟩] [4])
  (.ret [4])),
  [.t 4], 0⟩

/-- slices.ContainsFunc[[]int,int] -/
def ir_slices_ContainsFunc_of_int_int : IF := ⟨2,
  .seq (.reg none [⟨some 4, .mov (.c (.b false)), none⟩] [0, 1])
  (.seq (.reg none [⟨some 5, .mov (.t 0), none⟩,
    ⟨some 6, .mov (.t 1), none⟩,
    ⟨some 7, .call (.f n_slices_IndexFunc_of_int_int) [(.t 5), (.t 6)], none⟩,
    ⟨some 8, .bin .geq (.t 7) (.c (.i 0)), none⟩,
    ⟨some 4, .mov (.t 8), none⟩] [4])
  (.ret [4])),
  [.t 4], 0⟩

/-- truss/subst.small -/
def ir_subst_small : IF := ⟨2,
  .seq (.reg none [⟨some 2, .box 2 (.t 0), none⟩,
    ⟨some 3, .box 1 (.t 1), none⟩,
    ⟨some 4, .mov (.c (.b false)), none⟩] [2, 3])
  (.ps [.ownAt 2 0 2] (.seq (.seq (.reg none [⟨some 5, .load none (.t 3), none⟩,
    ⟨some 6, .nilc (.t 5), none⟩,
    ⟨some 7, .load none (.t 6), none⟩,
    ⟨some 8, .bin .add (.t 7) (.c (.i 1)), none⟩,
    ⟨some 9, .nilc (.t 5), none⟩,
    ⟨none, .store 1 (.t 9) (.t 8), none⟩] [2, 3])
  (.seq (.reg none [⟨some 10, .load none (.t 3), none⟩,
    ⟨some 11, .nilc (.t 10), none⟩,
    ⟨some 12, .load none (.t 11), none⟩,
    ⟨some 13, .bin .gtr (.t 12) (.c (.i 600)), none⟩,
    ⟨some 14, .mov (.t 13), none⟩,
    ⟨some 15, .faddr 1 (.t 2), some (14, false)⟩,
    ⟨some 16, .load none (.t 15), some (14, false)⟩,
    ⟨some 17, .bin .lss (.t 16) (.c (.i 0)), some (14, false)⟩,
    ⟨some 18, .pick (.t 14) (.c (.b true)) (.t 17), none⟩,
    ⟨some 19, .mov (.t 18), none⟩,
    ⟨some 20, .faddr 1 (.t 2), some (19, false)⟩,
    ⟨some 21, .load none (.t 20), some (19, false)⟩,
    ⟨some 22, .bin .gtr (.t 21) (.c (.i 9999)), some (19, false)⟩,
    ⟨some 23, .pick (.t 19) (.c (.b true)) (.t 22), none⟩] [2, 3, 23])
  (.cond (.t 23) (.seq (.reg none [⟨some 4, .mov (.c (.b false)), none⟩] [4])
    (.ret [4]))
  (.skip))))
  (.seq (.reg none [⟨some 24, .faddr 0 (.t 2), none⟩,
    ⟨some 25, .load none (.t 24), none⟩,
    ⟨some 26, .mfunc (.func n_subst_small_1) [(.t 3)], none⟩,
    ⟨some 27, .call (.f n_slices_ContainsFunc_of_Simple_api_Simple) [(.t 25), (.t 26)], none⟩,
    ⟨some 28, .not (.t 27), none⟩,
    ⟨some 4, .mov (.t 28), none⟩] [4])
  (.ret [4])))),
  [.t 4], 0⟩

/-- truss/subst.kept -/
def ir_subst_kept : IF := ⟨1,
  .seq (.reg none [⟨some 1, .box 4 (.t 0), none⟩,
    ⟨some 2, .alloc [(.i 0), (.i 0), (.i 0), (.sl true [])], none⟩] [1, 2])
  (.ps [.ownAt 1 3 4, .ownAt 2 3 4] (.seq (.seq (.reg none [⟨some 3, .load (some 4) (.t 1), none⟩,
    ⟨some 4, .call (.f n_term_Check) [(.t 3)], none⟩,
    ⟨some 5, .bin .neq (.t 4) (.c (.i 0)), none⟩] [1, 2, 5])
  (.cond (.t 5) (.reg none [⟨some 6, .call (.f n_subst_fail) [(.c (.i 5))], none⟩] [1, 2])
  (.skip)))
  (.seq (.reg none [⟨some 7, .load (some 4) (.t 1), none⟩,
    ⟨none, .store 4 (.t 2) (.t 7), none⟩] [2])
  (.ret [2])))),
  [.cell 2 (some 4)], 0⟩

def ir_slices_IndexFunc_of_Simple_api_SimpleL0 : IC :=
  .cut (.seq (.reg none [⟨some 9, .bin .lss (.t 8) (.t 7), none⟩] [0, 1, 7, 8, 9])
    (.seq (.cond (.t 9) (.skip)
    (.exit 0 []))
    (.seq (.block 1 (.seq (.reg none [⟨some 10, .mov (.t 8), none⟩,
        ⟨some 5, .mov (.t 10), none⟩] [0, 1, 5, 7, 8])
      (.seq (.reg none [⟨some 11, .mov (.t 1), none⟩,
        ⟨some 12, .mov (.t 0), none⟩,
        ⟨some 13, .mov (.t 5), none⟩,
        ⟨some 14, .iaddr none 2 (.t 12) (.t 13), none⟩,
        ⟨some 15, .load (some 2) (.t 14), none⟩,
        ⟨some 16, .call (.v (.t 11)) [(.t 15)], none⟩] [0, 1, 5, 7, 8, 16])
      (.cond (.t 16) (.seq (.reg none [⟨some 17, .mov (.t 5), none⟩,
          ⟨some 4, .mov (.t 17), none⟩] [4])
        (.ret [4]))
      (.skip)))))
    (.reg none [⟨some 18, .bin .add (.t 8) (.c (.i 1)), none⟩,
      ⟨some 8, .mov (.t 18), none⟩] [0, 1, 7, 8])))) [0, 1, 7, 8]
/-- slices.IndexFunc[[]truss/api.Simple,truss/api.Simple] -/
def ir_slices_IndexFunc_of_Simple_api_Simple : IF := ⟨2,
  .seq (.reg none [⟨some 4, .mov (.c (.i 0)), none⟩] [0, 1])
  (.seq (.seq (.reg none [⟨some 6, .mov (.t 0), none⟩,
    ⟨some 7, .len false (.t 6), none⟩,
    ⟨some 8, .mov (.c (.i 0)), none⟩] [0, 1, 7, 8])
  (.block 0 (.loop ir_slices_IndexFunc_of_Simple_api_SimpleL0)))
  (.seq (.reg none [⟨some 4, .mov (.c (.i (-1))), none⟩] [4])
  (.ret [4]))),
  [.t 4], 0⟩

end Go.Ev

