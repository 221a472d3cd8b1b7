import Derived.Test.YtkocmbgpiidkdaaGreatDoorDenB
import Derived.Laws.Externs
import Derived.Shelf.Spec.BitsCarry
import Derived.Test.YtkocmbgpiidkdaaGreatDoorProg
set_option linter.unusedVariables false
namespace Go.Proofs.YtkocmbgpiidkdaaGreatDoor
open Go Go.Den
namespace I
abbrev tumblerlaw10_FlushRecords : FuncId := 3
abbrev tumblerlaw10_FlushRises : FuncId := 4
abbrev tumblerlaw10_FlushApart : FuncId := 5
abbrev tumblerlaw10_FlushRates : FuncId := 6
abbrev tumblerlaw10_FlushBins : FuncId := 7
abbrev tumblerlaw10_FlushNone : FuncId := 8
abbrev tumblerlaw10_FlushSets : FuncId := 9
abbrev flush_Records : FuncId := 10
abbrev tumblerref10_Records : FuncId := 11
abbrev tumblerlaw10_awake : FuncId := 12
abbrev tumblerref10_Same : FuncId := 13
abbrev window_Begin : FuncId := 14
abbrev name_Valid : FuncId := 15
abbrev tumblerref10_Sorted : FuncId := 16
abbrev tumblerlaw10_find : FuncId := 17
abbrev micro_Share : FuncId := 18
abbrev wide_Add : FuncId := 19
abbrev wide_Of : FuncId := 20
abbrev flush_Check : FuncId := 21
abbrev flush_ways : FuncId := 22
abbrev strconv_Itoa : FuncId := 23
abbrev slices_SortFunc_api_Record_api_Record : FuncId := 24
abbrev flush_Records_1 : FuncId := 25
abbrev strings_Compare : FuncId := 26
abbrev tumblerref10_Check : FuncId := 27
abbrev tumblerref06_Begin : FuncId := 28
abbrev tumblerref03_Valid : FuncId := 29
abbrev tumblerref10_book_tally : FuncId := 30
abbrev window_wrong : FuncId := 31
abbrev window_times : FuncId := 32
abbrev strings_Split : FuncId := 33
abbrev slices_ContainsFunc_string_string : FuncId := 34
abbrev name_Valid_1 : FuncId := 35
abbrev name_bytes : FuncId := 36
abbrev wide_Quo : FuncId := 37
abbrev math_bits_Add64 : FuncId := 38
abbrev flush_rises : FuncId := 39
abbrev slices_Contains_int64_int64 : FuncId := 40
abbrev flush_book_counter : FuncId := 41
abbrev flush_book_gauge : FuncId := 42
abbrev flush_book_timer : FuncId := 43
abbrev flush_book_set : FuncId := 44
abbrev i_strconv_Itoa : FuncId := 45
abbrev slices_pdqsortCmpFunc_api_Record : FuncId := 46
abbrev math_bits_Len : FuncId := 47
abbrev i_bytealg_CompareString : FuncId := 48
abbrev tumblerref06_bad : FuncId := 49
abbrev tumblerref03_Cut : FuncId := 50
abbrev tumblerref03_Bytes : FuncId := 51
abbrev tumblerref02_Share : FuncId := 52
abbrev tumblerref10_book_put : FuncId := 53
abbrev tumblerref10_book_timer : FuncId := 54
abbrev tumblerref10_many : FuncId := 55
abbrev strings_genSplit : FuncId := 56
abbrev slices_IndexFunc_string_string : FuncId := 57
abbrev name_namely : FuncId := 58
abbrev wide_divided : FuncId := 59
abbrev wide_amount : FuncId := 60
abbrev wide_signed : FuncId := 61
abbrev slices_Index_int64_int64 : FuncId := 62
abbrev flush_book_put : FuncId := 63
abbrev flush_book_rate : FuncId := 64
abbrev timer_Of : FuncId := 65
abbrev timer_Upto : FuncId := 66
abbrev flush_label : FuncId := 67
abbrev flush_units : FuncId := 68
abbrev timer_Bins : FuncId := 69
abbrev i_strconv_FormatInt : FuncId := 70
abbrev slices_insertionSortCmpFunc_api_Record : FuncId := 71
abbrev slices_heapSortCmpFunc_api_Record : FuncId := 72
abbrev slices_breakPatternsCmpFunc_api_Record : FuncId := 73
abbrev slices_choosePivotCmpFunc_api_Record : FuncId := 74
abbrev slices_reverseRangeCmpFunc_api_Record : FuncId := 75
abbrev slices_partialInsertionSortCmpFunc_api_Record : FuncId := 76
abbrev slices_partitionEqualCmpFunc_api_Record : FuncId := 77
abbrev slices_partitionCmpFunc_api_Record : FuncId := 78
abbrev math_bits_Len32 : FuncId := 79
abbrev math_bits_Len64 : FuncId := 80
abbrev i_bytealg_abigen_runtime_cmpstring : FuncId := 81
abbrev tumblerref03_Byte : FuncId := 82
abbrev tumblerref02_Amount : FuncId := 83
abbrev tumblerref02_By : FuncId := 84
abbrev tumblerref02_Signed : FuncId := 85
abbrev tumblerref09_Of : FuncId := 86
abbrev tumblerref10_of : FuncId := 87
abbrev tumblerref09_Upto : FuncId := 88
abbrev tumblerref10_Label : FuncId := 89
abbrev tumblerref09_Bins : FuncId := 90
abbrev strings_explode : FuncId := 91
abbrev strings_Count : FuncId := 92
abbrev strings_Index : FuncId := 93
abbrev name_sort : FuncId := 94
abbrev math_bits_Sub64 : FuncId := 95
abbrev timer_sorted : FuncId := 96
abbrev timer_sum : FuncId := 97
abbrev wide_Mul : FuncId := 98
abbrev wide_Root : FuncId := 99
abbrev wide_Small : FuncId := 100
abbrev timer_rank : FuncId := 101
abbrev strings_ReplaceAll : FuncId := 102
abbrev micro_Print : FuncId := 103
abbrev slices_IndexFunc_int64_int64 : FuncId := 104
abbrev timer_Bins_1 : FuncId := 105
abbrev i_strconv_small : FuncId := 106
abbrev i_strconv_numDigits : FuncId := 107
abbrev i_strconv_formatBase10 : FuncId := 108
abbrev i_strconv_formatBits : FuncId := 109
abbrev slices_siftDownCmpFunc_api_Record : FuncId := 110
abbrev slices_nextPowerOfTwo : FuncId := 111
abbrev slices_xorshift_Next : FuncId := 112
abbrev slices_medianAdjacentCmpFunc_api_Record : FuncId := 113
abbrev slices_medianCmpFunc_api_Record : FuncId := 114
abbrev tumblerref03_Sort : FuncId := 115
abbrev tumblerref02_Plus : FuncId := 116
abbrev tumblerref09_fine : FuncId := 117
abbrev tumblerref09_Sorted : FuncId := 118
abbrev tumblerref09_sum : FuncId := 119
abbrev tumblerref09_wide : FuncId := 120
abbrev tumblerref09_part : FuncId := 121
abbrev tumblerref01_Int : FuncId := 122
abbrev tumblerref01_AddN : FuncId := 123
abbrev tumblerref01_MulN : FuncId := 124
abbrev tumblerref01_QuoN : FuncId := 125
abbrev tumblerref01_RootN : FuncId := 126
abbrev tumblerref09_Rank : FuncId := 127
abbrev tumblerref02_Print : FuncId := 128
abbrev unicode_utf8_RuneCountInString : FuncId := 129
abbrev unicode_utf8_DecodeRuneInString : FuncId := 130
abbrev i_bytealg_CountString : FuncId := 131
abbrev i_stringslite_Index : FuncId := 132
abbrev slices_ContainsFunc_int64_int64 : FuncId := 133
abbrev timer_sorted_1 : FuncId := 134
abbrev timer_merge_int64 : FuncId := 135
abbrev math_bits_Mul64 : FuncId := 136
abbrev strings_Replace : FuncId := 137
abbrev micro_Show : FuncId := 138
abbrev i_strconv_log10Pow2 : FuncId := 139
abbrev i_strconv_bool2_int : FuncId := 140
abbrev i_strconv_isPowerOfTwo : FuncId := 141
abbrev math_bits_TrailingZeros : FuncId := 142
abbrev slices_order2CmpFunc_api_Record : FuncId := 143
abbrev tumblerref09_Merge : FuncId := 144
abbrev tumblerref01_To : FuncId := 145
abbrev tumblerref01_Small : FuncId := 146
abbrev tumblerref01_From : FuncId := 147
abbrev tumblerref01_Of : FuncId := 148
abbrev tumblerref01_make2 : FuncId := 149
abbrev tumblerref01_addL : FuncId := 150
abbrev tumblerref01_cmpL : FuncId := 151
abbrev tumblerref01_subL : FuncId := 152
abbrev tumblerref01_mulL : FuncId := 153
abbrev tumblerref01_divL : FuncId := 154
abbrev tumblerref01_CmpN : FuncId := 155
abbrev tumblerref02_Of : FuncId := 156
abbrev tumblerref02_Text : FuncId := 157
abbrev unicode_utf8_decodeRuneInStringSlow : FuncId := 158
abbrev i_stringslite_IndexByte : FuncId := 159
abbrev i_bytealg_IndexString : FuncId := 160
abbrev i_bytealg_Cutover : FuncId := 161
abbrev i_bytealg_IndexRabinKarp_string : FuncId := 162
abbrev strings_Builder_Grow : FuncId := 163
abbrev strings_Builder_WriteString : FuncId := 164
abbrev strings_Builder_String : FuncId := 165
abbrev wide_Print : FuncId := 166
abbrev wide_Sign : FuncId := 167
abbrev wide_Neg : FuncId := 168
abbrev strconv_FormatInt : FuncId := 169
abbrev math_bits_TrailingZeros32 : FuncId := 170
abbrev math_bits_TrailingZeros64 : FuncId := 171
abbrev tumblerref01_word : FuncId := 172
abbrev tumblerref01_fits : FuncId := 173
abbrev tumblerref01_trim : FuncId := 174
abbrev tumblerref01_limb : FuncId := 175
abbrev tumblerref02_digits : FuncId := 176
abbrev i_bytealg_IndexByteString : FuncId := 177
abbrev i_bytealg_hashStr_string : FuncId := 178
abbrev strings_Builder_copyCheck : FuncId := 179
abbrev strings_Builder_grow : FuncId := 180
abbrev strconv_FormatUint : FuncId := 181
abbrev strings_Repeat : FuncId := 182
abbrev wide_Cmp : FuncId := 183
abbrev wide_Sub : FuncId := 184
abbrev i_abi_NoEscape : FuncId := 185
abbrev i_bytealg_MakeNoZero : FuncId := 186
abbrev i_strconv_FormatUint : FuncId := 187
abbrev math_bits_Mul : FuncId := 188
abbrev strings_HasPrefix : FuncId := 189
abbrev strings_Builder_Len : FuncId := 190
abbrev math_bits_Mul32 : FuncId := 191
abbrev i_stringslite_HasPrefix : FuncId := 192
abbrev runtime_boundsError_Error : FuncId := 193
abbrev runtime_boundsError_RuntimeError : FuncId := 194
abbrev runtime_errorString_Error : FuncId := 195
abbrev runtime_errorString_RuntimeError : FuncId := 196
abbrev runtime_plainError_Error : FuncId := 197
abbrev runtime_plainError_RuntimeError : FuncId := 198
abbrev runtime_errorAddressString_Error : FuncId := 199
abbrev runtime_errorAddressString_RuntimeError : FuncId := 200
abbrev runtime_TypeAssertionError_Error : FuncId := 201
abbrev runtime_TypeAssertionError_RuntimeError : FuncId := 202
abbrev runtime_PanicNilError_Error : FuncId := 203
abbrev runtime_PanicNilError_RuntimeError : FuncId := 204
abbrev i_abi_Type_Align : FuncId := 205
abbrev i_runtime_maps_unhashableTypeError_Error : FuncId := 206
abbrev i_runtime_maps_unhashableTypeError_RuntimeError : FuncId := 207
abbrev api_Errno_Error : FuncId := 208
abbrev strings_Builder_Reset : FuncId := 209
abbrev i_abi_Kind_String : FuncId := 210
abbrev gosem_cut_vars : FuncId := 218
end I
namespace B
abbrev tumblerlaw10_FlushRecords := @Tryz.func3
abbrev tumblerlaw10_FlushRises := @Tryz.func4
abbrev tumblerlaw10_FlushApart := @Tryz.func5
abbrev tumblerlaw10_FlushRates := @Tryz.func6
abbrev tumblerlaw10_FlushBins := @Tryz.func7
abbrev tumblerlaw10_FlushNone := @Tryz.func8
abbrev tumblerlaw10_FlushSets := @Tryz.func9
abbrev flush_Records := @Tryz.func10
abbrev tumblerref10_Records := @Tryz.func11
abbrev tumblerlaw10_awake := @Tryz.func12
abbrev tumblerref10_Same := @Tryz.func13
abbrev window_Begin := @Tryz.func14
abbrev name_Valid := @Tryz.func15
abbrev tumblerref10_Sorted := @Tryz.func16
abbrev tumblerlaw10_find := @Tryz.func17
abbrev micro_Share := @Tryz.func18
abbrev wide_Add := @Tryz.func19
abbrev wide_Of := @Tryz.func20
abbrev flush_Check := @Tryz.func21
abbrev flush_ways := @Tryz.func22
abbrev strconv_Itoa := @Tryz.func23
abbrev slices_SortFunc_api_Record_api_Record := @Tryz.func24
abbrev flush_Records_1 := @Tryz.func25
abbrev strings_Compare := @Tryz.func26
abbrev tumblerref10_Check := @Tryz.func27
abbrev tumblerref06_Begin := @Tryz.func28
abbrev tumblerref03_Valid := @Tryz.func29
abbrev tumblerref10_book_tally := @Tryz.func30
abbrev window_wrong := @Tryz.func31
abbrev window_times := @Tryz.func32
abbrev strings_Split := @Tryz.func33
abbrev slices_ContainsFunc_string_string := @Tryz.func34
abbrev name_Valid_1 := @Tryz.func35
abbrev name_bytes := @Tryz.func36
abbrev wide_Quo := @Tryz.func37
abbrev flush_rises := @Tryz.func39
abbrev slices_Contains_int64_int64 := @Tryz.func40
abbrev flush_book_counter := @Tryz.func41
abbrev flush_book_gauge := @Tryz.func42
abbrev flush_book_timer := @Tryz.func43
abbrev flush_book_set := @Tryz.func44
abbrev i_strconv_Itoa := @Tryz.func45
abbrev slices_pdqsortCmpFunc_api_Record := @Tryz.func46
abbrev math_bits_Len := @Tryz.func47
abbrev i_bytealg_CompareString := @Tryz.func48
abbrev tumblerref06_bad := @Tryz.func49
abbrev tumblerref03_Cut := @Tryz.func50
abbrev tumblerref03_Bytes := @Tryz.func51
abbrev tumblerref02_Share := @Tryz.func52
abbrev tumblerref10_book_put := @Tryz.func53
abbrev tumblerref10_book_timer := @Tryz.func54
abbrev tumblerref10_many := @Tryz.func55
abbrev strings_genSplit := @Tryz.func56
abbrev slices_IndexFunc_string_string := @Tryz.func57
abbrev name_namely := @Tryz.func58
abbrev wide_divided := @Tryz.func59
abbrev wide_amount := @Tryz.func60
abbrev wide_signed := @Tryz.func61
abbrev slices_Index_int64_int64 := @Tryz.func62
abbrev flush_book_put := @Tryz.func63
abbrev flush_book_rate := @Tryz.func64
abbrev timer_Of := @Tryz.func65
abbrev timer_Upto := @Tryz.func66
abbrev flush_label := @Tryz.func67
abbrev flush_units := @Tryz.func68
abbrev timer_Bins := @Tryz.func69
abbrev i_strconv_FormatInt := @Tryz.func70
abbrev slices_insertionSortCmpFunc_api_Record := @Tryz.func71
abbrev slices_heapSortCmpFunc_api_Record := @Tryz.func72
abbrev slices_breakPatternsCmpFunc_api_Record := @Tryz.func73
abbrev slices_choosePivotCmpFunc_api_Record := @Tryz.func74
abbrev slices_reverseRangeCmpFunc_api_Record := @Tryz.func75
abbrev slices_partialInsertionSortCmpFunc_api_Record := @Tryz.func76
abbrev slices_partitionEqualCmpFunc_api_Record := @Tryz.func77
abbrev slices_partitionCmpFunc_api_Record := @Tryz.func78
abbrev math_bits_Len32 := @Tryz.func79
abbrev math_bits_Len64 := @Tryz.func80
abbrev tumblerref03_Byte := @Tryz.func82
abbrev tumblerref02_Amount := @Tryz.func83
abbrev tumblerref02_By := @Tryz.func84
abbrev tumblerref02_Signed := @Tryz.func85
abbrev tumblerref09_Of := @Tryz.func86
abbrev tumblerref10_of := @Tryz.func87
abbrev tumblerref09_Upto := @Tryz.func88
abbrev tumblerref10_Label := @Tryz.func89
abbrev tumblerref09_Bins := @Tryz.func90
abbrev strings_explode := @Tryz.func91
abbrev strings_Count := @Tryz.func92
abbrev strings_Index := @Tryz.func93
abbrev name_sort := @Tryz.func94
abbrev timer_sorted := @Tryz.func96
abbrev timer_sum := @Tryz.func97
abbrev wide_Mul := @Tryz.func98
abbrev wide_Root := @Tryz.func99
abbrev wide_Small := @Tryz.func100
abbrev timer_rank := @Tryz.func101
abbrev strings_ReplaceAll := @Tryz.func102
abbrev micro_Print := @Tryz.func103
abbrev slices_IndexFunc_int64_int64 := @Tryz.func104
abbrev timer_Bins_1 := @Tryz.func105
abbrev i_strconv_small := @Tryz.func106
abbrev i_strconv_numDigits := @Tryz.func107
abbrev i_strconv_formatBase10 := @Tryz.func108
abbrev i_strconv_formatBits := @Tryz.func109
abbrev slices_siftDownCmpFunc_api_Record := @Tryz.func110
abbrev slices_nextPowerOfTwo := @Tryz.func111
abbrev slices_xorshift_Next := @Tryz.func112
abbrev slices_medianAdjacentCmpFunc_api_Record := @Tryz.func113
abbrev slices_medianCmpFunc_api_Record := @Tryz.func114
abbrev tumblerref03_Sort := @Tryz.func115
abbrev tumblerref02_Plus := @Tryz.func116
abbrev tumblerref09_fine := @Tryz.func117
abbrev tumblerref09_Sorted := @Tryz.func118
abbrev tumblerref09_sum := @Tryz.func119
abbrev tumblerref09_wide := @Tryz.func120
abbrev tumblerref09_part := @Tryz.func121
abbrev tumblerref01_Int := @Tryz.func122
abbrev tumblerref01_AddN := @Tryz.func123
abbrev tumblerref01_MulN := @Tryz.func124
abbrev tumblerref01_QuoN := @Tryz.func125
abbrev tumblerref01_RootN := @Tryz.func126
abbrev tumblerref09_Rank := @Tryz.func127
abbrev tumblerref02_Print := @Tryz.func128
abbrev unicode_utf8_RuneCountInString := @Tryz.func129
abbrev unicode_utf8_DecodeRuneInString := @Tryz.func130
abbrev i_stringslite_Index := @Tryz.func132
abbrev slices_ContainsFunc_int64_int64 := @Tryz.func133
abbrev timer_sorted_1 := @Tryz.func134
abbrev timer_merge_int64 := @Tryz.func135
abbrev math_bits_Mul64 := @Tryz.func136
abbrev strings_Replace := @Tryz.func137
abbrev micro_Show := @Tryz.func138
abbrev i_strconv_log10Pow2 := @Tryz.func139
abbrev i_strconv_bool2_int := @Tryz.func140
abbrev i_strconv_isPowerOfTwo := @Tryz.func141
abbrev math_bits_TrailingZeros := @Tryz.func142
abbrev slices_order2CmpFunc_api_Record := @Tryz.func143
abbrev tumblerref09_Merge := @Tryz.func144
abbrev tumblerref01_To := @Tryz.func145
abbrev tumblerref01_Small := @Tryz.func146
abbrev tumblerref01_From := @Tryz.func147
abbrev tumblerref01_Of := @Tryz.func148
abbrev tumblerref01_make2 := @Tryz.func149
abbrev tumblerref01_addL := @Tryz.func150
abbrev tumblerref01_cmpL := @Tryz.func151
abbrev tumblerref01_subL := @Tryz.func152
abbrev tumblerref01_mulL := @Tryz.func153
abbrev tumblerref01_divL := @Tryz.func154
abbrev tumblerref01_CmpN := @Tryz.func155
abbrev tumblerref02_Of := @Tryz.func156
abbrev tumblerref02_Text := @Tryz.func157
abbrev unicode_utf8_decodeRuneInStringSlow := @Tryz.func158
abbrev i_stringslite_IndexByte := @Tryz.func159
abbrev i_bytealg_Cutover := @Tryz.func161
abbrev i_bytealg_IndexRabinKarp_string := @Tryz.func162
abbrev strings_Builder_Grow := @Tryz.func163
abbrev strings_Builder_WriteString := @Tryz.func164
abbrev strings_Builder_String := @Tryz.func165
abbrev wide_Print := @Tryz.func166
abbrev wide_Sign := @Tryz.func167
abbrev wide_Neg := @Tryz.func168
abbrev strconv_FormatInt := @Tryz.func169
abbrev math_bits_TrailingZeros32 := @Tryz.func170
abbrev math_bits_TrailingZeros64 := @Tryz.func171
abbrev tumblerref01_word := @Tryz.func172
abbrev tumblerref01_fits := @Tryz.func173
abbrev tumblerref01_trim := @Tryz.func174
abbrev tumblerref01_limb := @Tryz.func175
abbrev tumblerref02_digits := @Tryz.func176
abbrev i_bytealg_hashStr_string := @Tryz.func178
abbrev strings_Builder_copyCheck := @Tryz.func179
abbrev strings_Builder_grow := @Tryz.func180
abbrev strconv_FormatUint := @Tryz.func181
abbrev strings_Repeat := @Tryz.func182
abbrev wide_Cmp := @Tryz.func183
abbrev wide_Sub := @Tryz.func184
abbrev i_strconv_FormatUint := @Tryz.func187
abbrev math_bits_Mul := @Tryz.func188
abbrev strings_HasPrefix := @Tryz.func189
abbrev strings_Builder_Len := @Tryz.func190
abbrev math_bits_Mul32 := @Tryz.func191
abbrev i_stringslite_HasPrefix := @Tryz.func192
end B
namespace NB
abbrev math_bits_Add64 := @Tryz.func38
abbrev i_bytealg_abigen_runtime_cmpstring := @Tryz.func81
abbrev math_bits_Sub64 := @Tryz.func95
abbrev i_bytealg_CountString := @Tryz.func131
abbrev i_bytealg_IndexString := @Tryz.func160
abbrev i_bytealg_IndexByteString := @Tryz.func177
abbrev i_abi_NoEscape := @Tryz.func185
abbrev i_bytealg_MakeNoZero := @Tryz.func186
abbrev runtime_boundsError_Error := @Tryz.func193
abbrev runtime_boundsError_RuntimeError := @Tryz.func194
abbrev runtime_errorString_Error := @Tryz.func195
abbrev runtime_errorString_RuntimeError := @Tryz.func196
abbrev runtime_plainError_Error := @Tryz.func197
abbrev runtime_plainError_RuntimeError := @Tryz.func198
abbrev runtime_errorAddressString_Error := @Tryz.func199
abbrev runtime_errorAddressString_RuntimeError := @Tryz.func200
abbrev runtime_TypeAssertionError_Error := @Tryz.func201
abbrev runtime_TypeAssertionError_RuntimeError := @Tryz.func202
abbrev runtime_PanicNilError_Error := @Tryz.func203
abbrev runtime_PanicNilError_RuntimeError := @Tryz.func204
abbrev i_abi_Type_Align := @Tryz.func205
abbrev i_runtime_maps_unhashableTypeError_Error := @Tryz.func206
abbrev i_runtime_maps_unhashableTypeError_RuntimeError := @Tryz.func207
abbrev api_Errno_Error := @Tryz.func208
abbrev strings_Builder_Reset := @Tryz.func209
abbrev i_abi_Kind_String := @Tryz.func210
abbrev var_s_door_gosem_cut_vars_holds_initialisers_alone_see_the_manifest_s_row_cutvarsword_look_11_test_files_too := @Tryz.func211
abbrev var_s_door_i_strconv_uint64pow10_is_laid_by_its_own_initialiser_plain_data_look_11 := @Tryz.func212
abbrev var_s_door_math_bits_deBruijn32tab_is_laid_by_its_own_initialiser_plain_data_look_11 := @Tryz.func213
abbrev var_s_door_math_bits_deBruijn64tab_is_laid_by_its_own_initialiser_plain_data_look_11 := @Tryz.func214
abbrev var_s_door_the_look_of_gosem_cut_vars_went_over_the_folder_that_the_caller_named_as_the_repository_s_root_look_11 := @Tryz.func215
abbrev var_s_door_unicode_utf8_acceptRanges_is_laid_by_its_own_initialiser_plain_data_look_11 := @Tryz.func216
abbrev var_s_door_unicode_utf8_first_is_laid_by_its_text_alone_pinned_1 := @Tryz.func217
end NB
namespace Y
abbrev abi_BoundsErrorCode : TypeId := 6
abbrev runtime_boundsError : TypeId := 8
abbrev runtime_errorString : TypeId := 10
abbrev runtime_plainError : TypeId := 11
abbrev runtime_errorAddressString : TypeId := 14
abbrev maps_unhashableTypeError : TypeId := 19
abbrev api_Window : TypeId := 24
abbrev api_Flush : TypeId := 27
abbrev api_Errno : TypeId := 29
abbrev api_Wide : TypeId := 41
abbrev api_Record : TypeId := 43
abbrev tumblerlaw10_Apart : TypeId := 46
abbrev api_Kind : TypeId := 50
abbrev api_Tally : TypeId := 53
abbrev flush_book : TypeId := 67
abbrev tumblerref10_book : TypeId := 82
abbrev wide_limbs : TypeId := 104
abbrev api_Stats : TypeId := 111
abbrev api_Share : TypeId := 115
abbrev slices_sortedHint : TypeId := 124
abbrev tumblerref02_Mag : TypeId := 135
abbrev slices_xorshift : TypeId := 164
abbrev tumblerref01_Num : TypeId := 175
abbrev strings_Builder : TypeId := 215
abbrev error : TypeId := 218
abbrev utf8_acceptRange : TypeId := 230
abbrev runtime_TypeAssertionError : TypeId := 249
abbrev runtime_PanicNilError : TypeId := 252
abbrev abi_TFlag : TypeId := 253
abbrev abi_Kind : TypeId := 254
abbrev abi_NameOff : TypeId := 256
abbrev abi_TypeOff : TypeId := 257
abbrev abi_Type : TypeId := 259
abbrev sl_api_Tally : TypeId := 22
abbrev sl_int64 : TypeId := 25
abbrev sl_api_Record : TypeId := 28
abbrev sl_string : TypeId := 51
abbrev arr_2_uint64 : TypeId := 103
abbrev sl_int : TypeId := 119
abbrev arr_24_uint8 : TypeId := 159
abbrev sl_uint8 : TypeId := 161
abbrev sl_uint32 : TypeId := 173
abbrev arr_20_uint64 : TypeId := 198
abbrev arr_65_uint8 : TypeId := 199
abbrev arr_256_uint8 : TypeId := 228
abbrev arr_16_utf8_acceptRange : TypeId := 231
abbrev arr_32_uint8 : TypeId := 238
abbrev arr_64_uint8 : TypeId := 239
abbrev arr_0_runtime_PanicNilError : TypeId := 250
abbrev int64 : TypeId := 2
abbrev int : TypeId := 3
abbrev bool : TypeId := 4
abbrev uint8 : TypeId := 5
abbrev string : TypeId := 9
abbrev uintptr : TypeId := 12
abbrev int32 : TypeId := 21
abbrev uint64 : TypeId := 39
abbrev uint : TypeId := 47
abbrev uint32 : TypeId := 132
end Y
namespace G
abbrev maxLen : Nat := 0
abbrev utfA : Nat := 2
abbrev utfB : Nat := 3
end G
def tys : Tys := [
(1, ⟨1, 8, false, [.nilFunc], .func, []⟩),
(2, ⟨1, 8, false, [.int .i64 0], (.int .i64), []⟩),
(3, ⟨1, 8, false, [.int .i64 0], (.int .i64), []⟩),
(4, ⟨1, 1, false, [.bool false], .bool, []⟩),
(5, ⟨1, 1, false, [.int .u8 0], (.int .u8), []⟩),
(6, ⟨1, 1, false, [.int .u8 0], (.int .u8), []⟩),
(7, ⟨4, 24, true, [.int .i64 0, .int .i64 0, .bool false, .int .u8 0], (.struct [(0, 1, false), (1, 1, false), (2, 1, false), (3, 1, false)]), [.i, .i, .b, .i]⟩),
(8, ⟨4, 24, true, [.int .i64 0, .int .i64 0, .bool false, .int .u8 0], (.struct [(0, 1, false), (1, 1, false), (2, 1, false), (3, 1, false)]), [.i, .i, .b, .i]⟩),
(9, ⟨1, 16, false, [.string ⟨#[]⟩], .string, []⟩),
(10, ⟨1, 16, false, [.string ⟨#[]⟩], .string, []⟩),
(11, ⟨1, 16, false, [.string ⟨#[]⟩], .string, []⟩),
(12, ⟨1, 8, false, [.int .u64 0], (.int .u64), []⟩),
(13, ⟨2, 24, true, [.string ⟨#[]⟩, .int .u64 0], (.struct [(0, 1, false), (1, 1, false)]), []⟩),
(14, ⟨2, 24, true, [.string ⟨#[]⟩, .int .u64 0], (.struct [(0, 1, false), (1, 1, false)]), []⟩),
(15, ⟨1, 8, false, [.pointer none], (.ptr 4 249), []⟩),
(16, ⟨1, 8, false, [.pointer none], (.ptr 0 252), []⟩),
(17, ⟨1, 8, false, [.pointer none], (.ptr 11 259), []⟩),
(18, ⟨1, 8, true, [.pointer none], (.struct [(0, 1, false)]), []⟩),
(19, ⟨1, 8, true, [.pointer none], (.struct [(0, 1, false)]), []⟩),
(20, ⟨1, 16, false, [.nilIface], .iface, []⟩),
(21, ⟨1, 4, false, [.int .i32 0], (.int .i32), []⟩),
(22, ⟨1, 24, false, [.slice none 0 0], (.slice 9 112 true [.int .i64 0, .string ⟨#[]⟩, .int .i64 0, .int .i64 0, .int .u64 0, .int .i64 0, .int .u64 0, .slice none 0 0, .slice none 0 0] 53), []⟩),
(23, ⟨2, 32, true, [.int .i64 0, .slice none 0 0], (.struct [(0, 1, false), (1, 1, false)]), []⟩),
(24, ⟨2, 32, true, [.int .i64 0, .slice none 0 0], (.struct [(0, 1, false), (1, 1, false)]), []⟩),
(25, ⟨1, 24, false, [.slice none 0 0], (.slice 1 8 false [.int .i64 0] 2), []⟩),
(26, ⟨3, 64, true, [.string ⟨#[]⟩, .slice none 0 0, .slice none 0 0], (.struct [(0, 1, false), (1, 1, false), (2, 1, false)]), []⟩),
(27, ⟨3, 64, true, [.string ⟨#[]⟩, .slice none 0 0, .slice none 0 0], (.struct [(0, 1, false), (1, 1, false), (2, 1, false)]), []⟩),
(28, ⟨1, 24, false, [.slice none 0 0], (.slice 4 40 true [.string ⟨#[]⟩, .int .i64 0, .int .u64 0, .int .i64 0] 43), []⟩),
(29, ⟨1, 8, false, [.int .i64 0], (.int .i64), []⟩),
(31, ⟨1, 8, false, [.nilFunc], .func, []⟩),
(33, ⟨1, 8, false, [.nilFunc], .func, []⟩),
(34, ⟨1, 8, false, [.nilFunc], .func, []⟩),
(35, ⟨1, 8, false, [.nilFunc], .func, []⟩),
(36, ⟨1, 8, false, [.nilFunc], .func, []⟩),
(38, ⟨1, 8, false, [.nilFunc], .func, []⟩),
(39, ⟨1, 8, false, [.int .u64 0], (.int .u64), []⟩),
(40, ⟨2, 16, true, [.int .i64 0, .int .u64 0], (.struct [(0, 1, false), (1, 1, false)]), [.i, .i]⟩),
(41, ⟨2, 16, true, [.int .i64 0, .int .u64 0], (.struct [(0, 1, false), (1, 1, false)]), [.i, .i]⟩),
(42, ⟨4, 40, true, [.string ⟨#[]⟩, .int .i64 0, .int .u64 0, .int .i64 0], (.struct [(0, 1, false), (1, 2, true), (3, 1, false)]), [.s, .i, .i, .i]⟩),
(43, ⟨4, 40, true, [.string ⟨#[]⟩, .int .i64 0, .int .u64 0, .int .i64 0], (.struct [(0, 1, false), (1, 2, true), (3, 1, false)]), [.s, .i, .i, .i]⟩),
(44, ⟨1, 8, false, [.nilFunc], .func, []⟩),
(45, ⟨7, 112, true, [.int .i64 0, .slice none 0 0, .int .i64 0, .string ⟨#[]⟩, .slice none 0 0, .slice none 0 0, .int .i64 0], (.struct [(0, 2, true), (2, 1, false), (3, 3, true), (6, 1, false)]), []⟩),
(46, ⟨7, 112, true, [.int .i64 0, .slice none 0 0, .int .i64 0, .string ⟨#[]⟩, .slice none 0 0, .slice none 0 0, .int .i64 0], (.struct [(0, 2, true), (2, 1, false), (3, 3, true), (6, 1, false)]), []⟩),
(47, ⟨1, 8, false, [.int .u64 0], (.int .u64), []⟩),
(48, ⟨1, 8, false, [.nilFunc], .func, []⟩),
(49, ⟨1, 8, false, [.nilFunc], .func, []⟩),
(50, ⟨1, 8, false, [.int .i64 0], (.int .i64), []⟩),
(51, ⟨1, 24, false, [.slice none 0 0], (.slice 1 16 false [.string ⟨#[]⟩] 9), []⟩),
(52, ⟨9, 112, true, [.int .i64 0, .string ⟨#[]⟩, .int .i64 0, .int .i64 0, .int .u64 0, .int .i64 0, .int .u64 0, .slice none 0 0, .slice none 0 0], (.struct [(0, 1, false), (1, 1, false), (2, 1, false), (3, 2, true), (5, 2, true), (7, 1, false), (8, 1, false)]), []⟩),
(53, ⟨9, 112, true, [.int .i64 0, .string ⟨#[]⟩, .int .i64 0, .int .i64 0, .int .u64 0, .int .i64 0, .int .u64 0, .slice none 0 0, .slice none 0 0], (.struct [(0, 1, false), (1, 1, false), (2, 1, false), (3, 2, true), (5, 2, true), (7, 1, false), (8, 1, false)]), []⟩),
(55, ⟨1, 8, false, [.nilFunc], .func, []⟩),
(57, ⟨1, 8, false, [.nilFunc], .func, []⟩),
(58, ⟨1, 8, false, [.nilFunc], .func, []⟩),
(59, ⟨1, 8, false, [.nilFunc], .func, []⟩),
(60, ⟨1, 8, false, [.nilFunc], .func, []⟩),
(61, ⟨1, 8, false, [.nilFunc], .func, []⟩),
(62, ⟨1, 8, false, [.nilFunc], .func, []⟩),
(63, ⟨1, 8, false, [.nilFunc], .func, []⟩),
(64, ⟨1, 8, false, [.nilFunc], .func, []⟩),
(65, ⟨1, 8, false, [.pointer none], (.ptr 7 67), []⟩),
(66, ⟨7, 112, true, [.int .i64 0, .string ⟨#[]⟩, .slice none 0 0, .slice none 0 0, .int .i64 0, .bool false, .slice none 0 0], (.struct [(0, 1, false), (1, 3, true), (4, 1, false), (5, 1, false), (6, 1, false)]), []⟩),
(67, ⟨7, 112, true, [.int .i64 0, .string ⟨#[]⟩, .slice none 0 0, .slice none 0 0, .int .i64 0, .bool false, .slice none 0 0], (.struct [(0, 1, false), (1, 3, true), (4, 1, false), (5, 1, false), (6, 1, false)]), []⟩),
(68, ⟨1, 8, false, [.map none], (.map false (.nilFunc)), []⟩),
(69, ⟨1, 8, false, [.nilFunc], .func, []⟩),
(70, ⟨1, 8, false, [.map none], (.map true (.int .i64 0)), []⟩),
(71, ⟨1, 8, false, [.nilFunc], .func, []⟩),
(73, ⟨1, 8, false, [.nilFunc], .func, []⟩),
(74, ⟨1, 8, false, [.nilFunc], .func, []⟩),
(75, ⟨1, 8, false, [.nilFunc], .func, []⟩),
(76, ⟨1, 8, false, [.nilFunc], .func, []⟩),
(77, ⟨1, 8, false, [.nilFunc], .func, []⟩),
(79, ⟨1, 8, false, [.nilFunc], .func, []⟩),
(80, ⟨1, 8, false, [.pointer none], (.ptr 3 82), []⟩),
(81, ⟨3, 48, true, [.string ⟨#[]⟩, .int .i64 0, .slice none 0 0], (.struct [(0, 1, false), (1, 1, false), (2, 1, false)]), []⟩),
(82, ⟨3, 48, true, [.string ⟨#[]⟩, .int .i64 0, .slice none 0 0], (.struct [(0, 1, false), (1, 1, false), (2, 1, false)]), []⟩),
(83, ⟨1, 8, false, [.nilFunc], .func, []⟩),
(84, ⟨1, 8, false, [.nilFunc], .func, []⟩),
(85, ⟨1, 8, false, [.nilFunc], .func, []⟩),
(86, ⟨1, 8, false, [.nilFunc], .func, []⟩),
(88, ⟨1, 8, false, [.nilFunc], .func, []⟩),
(90, ⟨1, 8, false, [.nilFunc], .func, []⟩),
(91, ⟨1, 8, false, [.nilFunc], .func, []⟩),
(92, ⟨1, 8, false, [.nilFunc], .func, []⟩),
(93, ⟨1, 8, false, [.nilFunc], .func, []⟩),
(94, ⟨1, 8, false, [.nilFunc], .func, []⟩),
(95, ⟨1, 8, false, [.nilFunc], .func, []⟩),
(97, ⟨1, 8, false, [.nilFunc], .func, []⟩),
(98, ⟨1, 8, false, [.nilFunc], .func, []⟩),
(99, ⟨1, 8, false, [.nilFunc], .func, []⟩),
(100, ⟨1, 8, false, [.nilFunc], .func, []⟩),
(101, ⟨1, 8, false, [.nilFunc], .func, []⟩),
(102, ⟨1, 8, false, [.nilFunc], .func, []⟩),
(103, ⟨2, 16, true, [.int .u64 0, .int .u64 0], (.arr 2 1 false), [.i, .i]⟩),
(104, ⟨2, 16, true, [.int .u64 0, .int .u64 0], (.arr 2 1 false), [.i, .i]⟩),
(106, ⟨1, 8, false, [.nilFunc], .func, []⟩),
(107, ⟨1, 8, false, [.nilFunc], .func, []⟩),
(108, ⟨1, 8, false, [.nilFunc], .func, []⟩),
(109, ⟨1, 8, false, [.nilFunc], .func, []⟩),
(110, ⟨8, 64, true, [.int .i64 0, .int .i64 0, .int .u64 0, .int .i64 0, .int .i64 0, .int .i64 0, .int .i64 0, .int .i64 0], (.struct [(0, 1, false), (1, 2, true), (3, 1, false), (4, 1, false), (5, 1, false), (6, 1, false), (7, 1, false)]), [.i, .i, .i, .i, .i, .i, .i, .i]⟩),
(111, ⟨8, 64, true, [.int .i64 0, .int .i64 0, .int .u64 0, .int .i64 0, .int .i64 0, .int .i64 0, .int .i64 0, .int .i64 0], (.struct [(0, 1, false), (1, 2, true), (3, 1, false), (4, 1, false), (5, 1, false), (6, 1, false), (7, 1, false)]), [.i, .i, .i, .i, .i, .i, .i, .i]⟩),
(113, ⟨1, 8, false, [.nilFunc], .func, []⟩),
(114, ⟨5, 40, true, [.int .i64 0, .int .i64 0, .int .u64 0, .int .i64 0, .int .i64 0], (.struct [(0, 1, false), (1, 2, true), (3, 1, false), (4, 1, false)]), [.i, .i, .i, .i, .i]⟩),
(115, ⟨5, 40, true, [.int .i64 0, .int .i64 0, .int .u64 0, .int .i64 0, .int .i64 0], (.struct [(0, 1, false), (1, 2, true), (3, 1, false), (4, 1, false)]), [.i, .i, .i, .i, .i]⟩),
(117, ⟨1, 8, false, [.nilFunc], .func, []⟩),
(118, ⟨1, 8, false, [.nilFunc], .func, []⟩),
(119, ⟨1, 24, false, [.slice none 0 0], (.slice 1 8 false [.int .i64 0] 3), []⟩),
(121, ⟨1, 8, false, [.nilFunc], .func, []⟩),
(122, ⟨1, 8, false, [.nilFunc], .func, []⟩),
(123, ⟨1, 8, false, [.nilFunc], .func, []⟩),
(124, ⟨1, 8, false, [.int .i64 0], (.int .i64), []⟩),
(126, ⟨1, 8, false, [.nilFunc], .func, []⟩),
(127, ⟨1, 8, false, [.nilFunc], .func, []⟩),
(128, ⟨1, 8, false, [.nilFunc], .func, []⟩),
(130, ⟨1, 8, false, [.nilFunc], .func, []⟩),
(131, ⟨1, 8, false, [.nilFunc], .func, []⟩),
(132, ⟨1, 4, false, [.int .u32 0], (.int .u32), []⟩),
(133, ⟨1, 8, false, [.nilFunc], .func, []⟩),
(134, ⟨3, 24, true, [.int .u64 0, .int .u64 0, .bool false], (.struct [(0, 1, false), (1, 1, false), (2, 1, false)]), [.i, .i, .b]⟩),
(135, ⟨3, 24, true, [.int .u64 0, .int .u64 0, .bool false], (.struct [(0, 1, false), (1, 1, false), (2, 1, false)]), [.i, .i, .b]⟩),
(137, ⟨1, 8, false, [.nilFunc], .func, []⟩),
(139, ⟨1, 8, false, [.nilFunc], .func, []⟩),
(140, ⟨1, 8, false, [.nilFunc], .func, []⟩),
(142, ⟨1, 8, false, [.nilFunc], .func, []⟩),
(144, ⟨1, 8, false, [.nilFunc], .func, []⟩),
(146, ⟨1, 8, false, [.nilFunc], .func, []⟩),
(147, ⟨1, 8, false, [.nilFunc], .func, []⟩),
(148, ⟨1, 8, false, [.nilFunc], .func, []⟩),
(150, ⟨1, 8, false, [.nilFunc], .func, []⟩),
(152, ⟨1, 8, false, [.nilFunc], .func, []⟩),
(153, ⟨1, 8, false, [.nilFunc], .func, []⟩),
(155, ⟨1, 8, false, [.nilFunc], .func, []⟩),
(156, ⟨1, 8, false, [.nilFunc], .func, []⟩),
(157, ⟨1, 8, false, [.nilFunc], .func, []⟩),
(158, ⟨1, 8, false, [.nilFunc], .func, []⟩),
(159, ⟨24, 24, true, [.int .u8 0, .int .u8 0, .int .u8 0, .int .u8 0, .int .u8 0, .int .u8 0, .int .u8 0, .int .u8 0, .int .u8 0, .int .u8 0, .int .u8 0, .int .u8 0, .int .u8 0, .int .u8 0, .int .u8 0, .int .u8 0, .int .u8 0, .int .u8 0, .int .u8 0, .int .u8 0, .int .u8 0, .int .u8 0, .int .u8 0, .int .u8 0], (.arr 24 1 false), []⟩),
(160, ⟨1, 8, false, [.nilFunc], .func, []⟩),
(161, ⟨1, 24, false, [.slice none 0 0], (.slice 1 1 false [.int .u8 0] 5), []⟩),
(163, ⟨1, 8, false, [.nilFunc], .func, []⟩),
(164, ⟨1, 8, false, [.int .u64 0], (.int .u64), []⟩),
(165, ⟨1, 8, false, [.nilFunc], .func, []⟩),
(166, ⟨1, 8, false, [.nilFunc], .func, []⟩),
(167, ⟨1, 8, false, [.nilFunc], .func, []⟩),
(168, ⟨1, 8, false, [.pointer none], (.ptr 1 3), []⟩),
(169, ⟨1, 8, false, [.nilFunc], .func, []⟩),
(170, ⟨1, 8, false, [.nilFunc], .func, []⟩),
(171, ⟨1, 8, false, [.nilFunc], .func, []⟩),
(172, ⟨1, 8, false, [.nilFunc], .func, []⟩),
(173, ⟨1, 24, false, [.slice none 0 0], (.slice 1 4 false [.int .u32 0] 132), []⟩),
(174, ⟨2, 32, true, [.bool false, .slice none 0 0], (.struct [(0, 1, false), (1, 1, false)]), []⟩),
(175, ⟨2, 32, true, [.bool false, .slice none 0 0], (.struct [(0, 1, false), (1, 1, false)]), []⟩),
(176, ⟨1, 8, false, [.nilFunc], .func, []⟩),
(177, ⟨1, 8, false, [.nilFunc], .func, []⟩),
(178, ⟨1, 8, false, [.nilFunc], .func, []⟩),
(179, ⟨1, 8, false, [.nilFunc], .func, []⟩),
(180, ⟨1, 8, false, [.nilFunc], .func, []⟩),
(182, ⟨1, 8, false, [.nilFunc], .func, []⟩),
(183, ⟨1, 8, false, [.nilFunc], .func, []⟩),
(185, ⟨1, 8, false, [.nilFunc], .func, []⟩),
(186, ⟨1, 8, false, [.nilFunc], .func, []⟩),
(188, ⟨1, 8, false, [.nilFunc], .func, []⟩),
(189, ⟨1, 8, false, [.nilFunc], .func, []⟩),
(190, ⟨1, 8, false, [.nilFunc], .func, []⟩),
(191, ⟨1, 24, false, [.slice none 0 0], (.slice 1 24 false [.slice none 0 0] 25), []⟩),
(192, ⟨1, 8, false, [.nilFunc], .func, []⟩),
(193, ⟨1, 8, false, [.nilFunc], .func, []⟩),
(194, ⟨1, 8, false, [.nilFunc], .func, []⟩),
(195, ⟨1, 8, false, [.nilFunc], .func, []⟩),
(196, ⟨1, 8, false, [.nilFunc], .func, []⟩),
(197, ⟨1, 8, false, [.nilFunc], .func, []⟩),
(198, ⟨20, 160, true, [.int .u64 0, .int .u64 0, .int .u64 0, .int .u64 0, .int .u64 0, .int .u64 0, .int .u64 0, .int .u64 0, .int .u64 0, .int .u64 0, .int .u64 0, .int .u64 0, .int .u64 0, .int .u64 0, .int .u64 0, .int .u64 0, .int .u64 0, .int .u64 0, .int .u64 0, .int .u64 0], (.arr 20 1 false), [.i, .i, .i, .i, .i, .i, .i, .i, .i, .i, .i, .i, .i, .i, .i, .i, .i, .i, .i, .i]⟩),
(199, ⟨65, 65, true, [.int .u8 0, .int .u8 0, .int .u8 0, .int .u8 0, .int .u8 0, .int .u8 0, .int .u8 0, .int .u8 0, .int .u8 0, .int .u8 0, .int .u8 0, .int .u8 0, .int .u8 0, .int .u8 0, .int .u8 0, .int .u8 0, .int .u8 0, .int .u8 0, .int .u8 0, .int .u8 0, .int .u8 0, .int .u8 0, .int .u8 0, .int .u8 0, .int .u8 0, .int .u8 0, .int .u8 0, .int .u8 0, .int .u8 0, .int .u8 0, .int .u8 0, .int .u8 0, .int .u8 0, .int .u8 0, .int .u8 0, .int .u8 0, .int .u8 0, .int .u8 0, .int .u8 0, .int .u8 0, .int .u8 0, .int .u8 0, .int .u8 0, .int .u8 0, .int .u8 0, .int .u8 0, .int .u8 0, .int .u8 0, .int .u8 0, .int .u8 0, .int .u8 0, .int .u8 0, .int .u8 0, .int .u8 0, .int .u8 0, .int .u8 0, .int .u8 0, .int .u8 0, .int .u8 0, .int .u8 0, .int .u8 0, .int .u8 0, .int .u8 0, .int .u8 0, .int .u8 0], (.arr 65 1 false), []⟩),
(200, ⟨1, 8, false, [.nilFunc], .func, []⟩),
(201, ⟨1, 8, false, [.pointer none], (.ptr 1 164), []⟩),
(202, ⟨1, 8, false, [.nilFunc], .func, []⟩),
(203, ⟨1, 8, false, [.nilFunc], .func, []⟩),
(204, ⟨1, 8, false, [.nilFunc], .func, []⟩),
(205, ⟨1, 8, false, [.nilFunc], .func, []⟩),
(206, ⟨1, 8, false, [.nilFunc], .func, []⟩),
(207, ⟨1, 8, false, [.nilFunc], .func, []⟩),
(209, ⟨1, 8, false, [.nilFunc], .func, []⟩),
(210, ⟨1, 8, false, [.nilFunc], .func, []⟩),
(211, ⟨1, 8, false, [.nilFunc], .func, []⟩),
(212, ⟨1, 8, false, [.nilFunc], .func, []⟩),
(213, ⟨1, 8, false, [.pointer none], (.ptr 2 215), []⟩),
(214, ⟨2, 32, true, [.pointer none, .slice none 0 0], (.struct [(0, 1, false), (1, 1, false)]), []⟩),
(215, ⟨2, 32, true, [.pointer none, .slice none 0 0], (.struct [(0, 1, false), (1, 1, false)]), []⟩),
(216, ⟨1, 8, false, [.nilFunc], .func, []⟩),
(217, ⟨1, 16, false, [.nilIface], .iface, []⟩),
(218, ⟨1, 16, false, [.nilIface], .iface, []⟩),
(220, ⟨1, 8, false, [.nilFunc], .func, []⟩),
(221, ⟨1, 8, false, [.nilFunc], .func, []⟩),
(222, ⟨1, 8, false, [.nilFunc], .func, []⟩),
(223, ⟨1, 8, false, [.nilFunc], .func, []⟩),
(224, ⟨1, 8, false, [.nilFunc], .func, []⟩),
(225, ⟨1, 8, false, [.nilFunc], .func, []⟩),
(226, ⟨1, 8, false, [.nilFunc], .func, []⟩),
(227, ⟨1, 8, false, [.nilFunc], .func, []⟩),
(228, ⟨256, 256, true, [.int .u8 0, .int .u8 0, .int .u8 0, .int .u8 0, .int .u8 0, .int .u8 0, .int .u8 0, .int .u8 0, .int .u8 0, .int .u8 0, .int .u8 0, .int .u8 0, .int .u8 0, .int .u8 0, .int .u8 0, .int .u8 0, .int .u8 0, .int .u8 0, .int .u8 0, .int .u8 0, .int .u8 0, .int .u8 0, .int .u8 0, .int .u8 0, .int .u8 0, .int .u8 0, .int .u8 0, .int .u8 0, .int .u8 0, .int .u8 0, .int .u8 0, .int .u8 0, .int .u8 0, .int .u8 0, .int .u8 0, .int .u8 0, .int .u8 0, .int .u8 0, .int .u8 0, .int .u8 0, .int .u8 0, .int .u8 0, .int .u8 0, .int .u8 0, .int .u8 0, .int .u8 0, .int .u8 0, .int .u8 0, .int .u8 0, .int .u8 0, .int .u8 0, .int .u8 0, .int .u8 0, .int .u8 0, .int .u8 0, .int .u8 0, .int .u8 0, .int .u8 0, .int .u8 0, .int .u8 0, .int .u8 0, .int .u8 0, .int .u8 0, .int .u8 0, .int .u8 0, .int .u8 0, .int .u8 0, .int .u8 0, .int .u8 0, .int .u8 0, .int .u8 0, .int .u8 0, .int .u8 0, .int .u8 0, .int .u8 0, .int .u8 0, .int .u8 0, .int .u8 0, .int .u8 0, .int .u8 0, .int .u8 0, .int .u8 0, .int .u8 0, .int .u8 0, .int .u8 0, .int .u8 0, .int .u8 0, .int .u8 0, .int .u8 0, .int .u8 0, .int .u8 0, .int .u8 0, .int .u8 0, .int .u8 0, .int .u8 0, .int .u8 0, .int .u8 0, .int .u8 0, .int .u8 0, .int .u8 0, .int .u8 0, .int .u8 0, .int .u8 0, .int .u8 0, .int .u8 0, .int .u8 0, .int .u8 0, .int .u8 0, .int .u8 0, .int .u8 0, .int .u8 0, .int .u8 0, .int .u8 0, .int .u8 0, .int .u8 0, .int .u8 0, .int .u8 0, .int .u8 0, .int .u8 0, .int .u8 0, .int .u8 0, .int .u8 0, .int .u8 0, .int .u8 0, .int .u8 0, .int .u8 0, .int .u8 0, .int .u8 0, .int .u8 0, .int .u8 0, .int .u8 0, .int .u8 0, .int .u8 0, .int .u8 0, .int .u8 0, .int .u8 0, .int .u8 0, .int .u8 0, .int .u8 0, .int .u8 0, .int .u8 0, .int .u8 0, .int .u8 0, .int .u8 0, .int .u8 0, .int .u8 0, .int .u8 0, .int .u8 0, .int .u8 0, .int .u8 0, .int .u8 0, .int .u8 0, .int .u8 0, .int .u8 0, .int .u8 0, .int .u8 0, .int .u8 0, .int .u8 0, .int .u8 0, .int .u8 0, .int .u8 0, .int .u8 0, .int .u8 0, .int .u8 0, .int .u8 0, .int .u8 0, .int .u8 0, .int .u8 0, .int .u8 0, .int .u8 0, .int .u8 0, .int .u8 0, .int .u8 0, .int .u8 0, .int .u8 0, .int .u8 0, .int .u8 0, .int .u8 0, .int .u8 0, .int .u8 0, .int .u8 0, .int .u8 0, .int .u8 0, .int .u8 0, .int .u8 0, .int .u8 0, .int .u8 0, .int .u8 0, .int .u8 0, .int .u8 0, .int .u8 0, .int .u8 0, .int .u8 0, .int .u8 0, .int .u8 0, .int .u8 0, .int .u8 0, .int .u8 0, .int .u8 0, .int .u8 0, .int .u8 0, .int .u8 0, .int .u8 0, .int .u8 0, .int .u8 0, .int .u8 0, .int .u8 0, .int .u8 0, .int .u8 0, .int .u8 0, .int .u8 0, .int .u8 0, .int .u8 0, .int .u8 0, .int .u8 0, .int .u8 0, .int .u8 0, .int .u8 0, .int .u8 0, .int .u8 0, .int .u8 0, .int .u8 0, .int .u8 0, .int .u8 0, .int .u8 0, .int .u8 0, .int .u8 0, .int .u8 0, .int .u8 0, .int .u8 0, .int .u8 0, .int .u8 0, .int .u8 0, .int .u8 0, .int .u8 0, .int .u8 0, .int .u8 0, .int .u8 0, .int .u8 0, .int .u8 0, .int .u8 0, .int .u8 0, .int .u8 0, .int .u8 0, .int .u8 0, .int .u8 0, .int .u8 0, .int .u8 0, .int .u8 0, .int .u8 0, .int .u8 0, .int .u8 0, .int .u8 0, .int .u8 0, .int .u8 0, .int .u8 0], (.arr 256 1 false), []⟩),
(229, ⟨2, 2, true, [.int .u8 0, .int .u8 0], (.struct [(0, 1, false), (1, 1, false)]), [.i, .i]⟩),
(230, ⟨2, 2, true, [.int .u8 0, .int .u8 0], (.struct [(0, 1, false), (1, 1, false)]), [.i, .i]⟩),
(231, ⟨32, 32, true, [.int .u8 0, .int .u8 0, .int .u8 0, .int .u8 0, .int .u8 0, .int .u8 0, .int .u8 0, .int .u8 0, .int .u8 0, .int .u8 0, .int .u8 0, .int .u8 0, .int .u8 0, .int .u8 0, .int .u8 0, .int .u8 0, .int .u8 0, .int .u8 0, .int .u8 0, .int .u8 0, .int .u8 0, .int .u8 0, .int .u8 0, .int .u8 0, .int .u8 0, .int .u8 0, .int .u8 0, .int .u8 0, .int .u8 0, .int .u8 0, .int .u8 0, .int .u8 0], (.arr 16 2 true), [.i, .i, .i, .i, .i, .i, .i, .i, .i, .i, .i, .i, .i, .i, .i, .i, .i, .i, .i, .i, .i, .i, .i, .i, .i, .i, .i, .i, .i, .i, .i, .i]⟩),
(233, ⟨1, 8, false, [.nilFunc], .func, []⟩),
(234, ⟨1, 8, false, [.pointer none], (.ptr 1 5), []⟩),
(235, ⟨1, 8, false, [.nilFunc], .func, []⟩),
(236, ⟨1, 8, false, [.nilFunc], .func, []⟩),
(237, ⟨1, 8, false, [.nilFunc], .func, []⟩),
(238, ⟨32, 32, true, [.int .u8 0, .int .u8 0, .int .u8 0, .int .u8 0, .int .u8 0, .int .u8 0, .int .u8 0, .int .u8 0, .int .u8 0, .int .u8 0, .int .u8 0, .int .u8 0, .int .u8 0, .int .u8 0, .int .u8 0, .int .u8 0, .int .u8 0, .int .u8 0, .int .u8 0, .int .u8 0, .int .u8 0, .int .u8 0, .int .u8 0, .int .u8 0, .int .u8 0, .int .u8 0, .int .u8 0, .int .u8 0, .int .u8 0, .int .u8 0, .int .u8 0, .int .u8 0], (.arr 32 1 false), []⟩),
(239, ⟨64, 64, true, [.int .u8 0, .int .u8 0, .int .u8 0, .int .u8 0, .int .u8 0, .int .u8 0, .int .u8 0, .int .u8 0, .int .u8 0, .int .u8 0, .int .u8 0, .int .u8 0, .int .u8 0, .int .u8 0, .int .u8 0, .int .u8 0, .int .u8 0, .int .u8 0, .int .u8 0, .int .u8 0, .int .u8 0, .int .u8 0, .int .u8 0, .int .u8 0, .int .u8 0, .int .u8 0, .int .u8 0, .int .u8 0, .int .u8 0, .int .u8 0, .int .u8 0, .int .u8 0, .int .u8 0, .int .u8 0, .int .u8 0, .int .u8 0, .int .u8 0, .int .u8 0, .int .u8 0, .int .u8 0, .int .u8 0, .int .u8 0, .int .u8 0, .int .u8 0, .int .u8 0, .int .u8 0, .int .u8 0, .int .u8 0, .int .u8 0, .int .u8 0, .int .u8 0, .int .u8 0, .int .u8 0, .int .u8 0, .int .u8 0, .int .u8 0, .int .u8 0, .int .u8 0, .int .u8 0, .int .u8 0, .int .u8 0, .int .u8 0, .int .u8 0, .int .u8 0], (.arr 64 1 false), []⟩),
(240, ⟨1, 8, false, [.pointer none], .uptr, []⟩),
(241, ⟨1, 8, false, [.nilFunc], .func, []⟩),
(242, ⟨1, 8, false, [.nilFunc], .func, []⟩),
(244, ⟨1, 8, false, [.nilFunc], .func, []⟩),
(245, ⟨1, 8, false, [.nilFunc], .func, []⟩),
(246, ⟨1, 8, false, [.nilFunc], .func, []⟩),
(247, ⟨1, 8, false, [.nilFunc], .func, []⟩),
(248, ⟨4, 40, true, [.pointer none, .pointer none, .pointer none, .string ⟨#[]⟩], (.struct [(0, 1, false), (1, 1, false), (2, 1, false), (3, 1, false)]), []⟩),
(249, ⟨4, 40, true, [.pointer none, .pointer none, .pointer none, .string ⟨#[]⟩], (.struct [(0, 1, false), (1, 1, false), (2, 1, false), (3, 1, false)]), []⟩),
(250, ⟨0, 0, true, [], (.arr 0 1 false), []⟩),
(251, ⟨0, 0, true, [], (.struct [(0, 0, true)]), []⟩),
(252, ⟨0, 0, true, [], (.struct [(0, 0, true)]), []⟩),
(253, ⟨1, 1, false, [.int .u8 0], (.int .u8), []⟩),
(254, ⟨1, 1, false, [.int .u8 0], (.int .u8), []⟩),
(255, ⟨1, 8, false, [.nilFunc], .func, []⟩),
(256, ⟨1, 4, false, [.int .i32 0], (.int .i32), []⟩),
(257, ⟨1, 4, false, [.int .i32 0], (.int .i32), []⟩),
(258, ⟨11, 48, true, [.int .u64 0, .int .u64 0, .int .u32 0, .int .u8 0, .int .u8 0, .int .u8 0, .int .u8 0, .nilFunc, .pointer none, .int .i32 0, .int .i32 0], (.struct [(0, 1, false), (1, 1, false), (2, 1, false), (3, 1, false), (4, 1, false), (5, 1, false), (6, 1, false), (7, 1, false), (8, 1, false), (9, 1, false), (10, 1, false)]), []⟩),
(259, ⟨11, 48, true, [.int .u64 0, .int .u64 0, .int .u32 0, .int .u8 0, .int .u8 0, .int .u8 0, .int .u8 0, .nilFunc, .pointer none, .int .i32 0, .int .i32 0], (.struct [(0, 1, false), (1, 1, false), (2, 1, false), (3, 1, false), (4, 1, false), (5, 1, false), (6, 1, false), (7, 1, false), (8, 1, false), (9, 1, false), (10, 1, false)]), []⟩)]
theorem tys_ok : TysOk Tryz.prog tys ∧ TysPl Tryz.prog tys := tysChk_ok (by kernel_rfl)
end Go.Proofs.YtkocmbgpiidkdaaGreatDoor
