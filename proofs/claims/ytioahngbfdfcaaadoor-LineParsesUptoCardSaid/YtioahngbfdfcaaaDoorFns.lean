import Derived.Test.YtioahngbfdfcaaaDoorDenB
import Derived.Laws.Externs
import Derived.Shelf.Spec.BitsCarry
import Derived.Test.YtioahngbfdfcaaaDoorProg
set_option linter.unusedVariables false
namespace Go.Proofs.YtioahngbfdfcaaaDoor
open Go Go.Den
namespace I
abbrev tumblerlaw04_LineParses : FuncId := 3
abbrev tumblerlaw04_LinePlaces : FuncId := 4
abbrev tumblerlaw04_LineParts : FuncId := 5
abbrev tumblerlaw04_LineOrder : FuncId := 6
abbrev tumblerlaw04_LinePrints : FuncId := 7
abbrev tumblerlaw04_LineDeltas : FuncId := 8
abbrev tumblerlaw04_LineRight : FuncId := 9
abbrev line_Parse : FuncId := 10
abbrev tumblerref04_Parse : FuncId := 11
abbrev tumblerlaw04_awake : FuncId := 12
abbrev tumblerref04_Parts : FuncId := 13
abbrev tumblerref04_Colon : FuncId := 14
abbrev tumblerlaw04_bare : FuncId := 15
abbrev tumblerlaw04_Built_text : FuncId := 16
abbrev micro_Parse : FuncId := 17
abbrev name_Clean : FuncId := 18
abbrev line_Print : FuncId := 19
abbrev tumblerref04_Print : FuncId := 20
abbrev micro_Print : FuncId := 21
abbrev line_Check : FuncId := 22
abbrev strings_IndexByte : FuncId := 23
abbrev line_cutter : FuncId := 24
abbrev line_kindOf : FuncId := 25
abbrev line_takeValue : FuncId := 26
abbrev line_fields : FuncId := 27
abbrev tumblerref03_Clean : FuncId := 28
abbrev tumblerref04_Kind : FuncId := 29
abbrev tumblerref04_value : FuncId := 30
abbrev tumblerref04_field : FuncId := 31
abbrev micro_read : FuncId := 32
abbrev micro_decimal_worth : FuncId := 33
abbrev wide_Small : FuncId := 34
abbrev unicode_utf8_DecodeRuneInString : FuncId := 35
abbrev name_blank : FuncId := 36
abbrev strings_Builder_WriteByte : FuncId := 37
abbrev name_namely : FuncId := 38
abbrev slices_DeleteFunc_string_string : FuncId := 39
abbrev strings_Split : FuncId := 40
abbrev strings_Builder_String : FuncId := 41
abbrev name_Clean_1 : FuncId := 42
abbrev strings_Join : FuncId := 43
abbrev name_Valid : FuncId := 44
abbrev line_letters : FuncId := 45
abbrev strconv_FormatInt : FuncId := 46
abbrev tumblerref04_Check : FuncId := 47
abbrev tumblerref02_Print : FuncId := 48
abbrev tumblerref04_Letters : FuncId := 49
abbrev tumblerref04_digits : FuncId := 50
abbrev micro_Show : FuncId := 51
abbrev wide_Of : FuncId := 52
abbrev line_rated : FuncId := 53
abbrev line_valueFits : FuncId := 54
abbrev i_stringslite_IndexByte : FuncId := 55
abbrev line_cutter_1 : FuncId := 56
abbrev line_member : FuncId := 57
abbrev line_stamp : FuncId := 58
abbrev tumblerref03_rune1 : FuncId := 59
abbrev tumblerref03_blank : FuncId := 60
abbrev tumblerref03_Byte : FuncId := 61
abbrev tumblerref03_Valid : FuncId := 62
abbrev tumblerref04_Member : FuncId := 63
abbrev tumblerref02_Parse : FuncId := 64
abbrev tumblerref04_stamp : FuncId := 65
abbrev wide_Mul : FuncId := 66
abbrev wide_Sub : FuncId := 67
abbrev wide_Add : FuncId := 68
abbrev micro_tens : FuncId := 69
abbrev unicode_utf8_decodeRuneInStringSlow : FuncId := 70
abbrev strings_Builder_copyCheck : FuncId := 71
abbrev name_sort : FuncId := 72
abbrev slices_IndexFunc_string_string : FuncId := 73
abbrev strings_genSplit : FuncId := 74
abbrev strings_Builder_Grow : FuncId := 75
abbrev strings_Builder_WriteString : FuncId := 76
abbrev slices_ContainsFunc_string_string : FuncId := 77
abbrev name_Valid_1 : FuncId := 78
abbrev name_bytes : FuncId := 79
abbrev i_strconv_FormatInt : FuncId := 80
abbrev tumblerref04_fits : FuncId := 81
abbrev tumblerref02_Of : FuncId := 82
abbrev tumblerref02_Text : FuncId := 83
abbrev wide_Quo : FuncId := 84
abbrev wide_Print : FuncId := 85
abbrev wide_Sign : FuncId := 86
abbrev wide_Neg : FuncId := 87
abbrev i_bytealg_IndexByteString : FuncId := 88
abbrev tumblerref03_Sort : FuncId := 89
abbrev tumblerref03_Cut : FuncId := 90
abbrev tumblerref03_Bytes : FuncId := 91
abbrev tumblerref02_taken : FuncId := 92
abbrev tumblerref02_Small : FuncId := 93
abbrev wide_amount : FuncId := 94
abbrev math_bits_Mul64 : FuncId := 95
abbrev math_bits_Add64 : FuncId := 96
abbrev wide_signed : FuncId := 97
abbrev math_bits_Sub64 : FuncId := 98
abbrev i_abi_NoEscape : FuncId := 99
abbrev strings_explode : FuncId := 100
abbrev strings_Count : FuncId := 101
abbrev strings_Index : FuncId := 102
abbrev strings_Builder_grow : FuncId := 103
abbrev i_strconv_small : FuncId := 104
abbrev i_strconv_numDigits : FuncId := 105
abbrev i_strconv_formatBase10 : FuncId := 106
abbrev i_strconv_formatBits : FuncId := 107
abbrev tumblerref02_digits : FuncId := 108
abbrev wide_divided : FuncId := 109
abbrev strconv_FormatUint : FuncId := 110
abbrev strings_Repeat : FuncId := 111
abbrev wide_Cmp : FuncId := 112
abbrev tumblerref02_Take : FuncId := 113
abbrev tumblerref02_Worth : FuncId := 114
abbrev unicode_utf8_RuneCountInString : FuncId := 115
abbrev i_bytealg_CountString : FuncId := 116
abbrev i_stringslite_Index : FuncId := 117
abbrev i_bytealg_MakeNoZero : FuncId := 118
abbrev i_strconv_log10Pow2 : FuncId := 119
abbrev math_bits_Len64 : FuncId := 120
abbrev i_strconv_bool2_int : FuncId := 121
abbrev i_strconv_isPowerOfTwo : FuncId := 122
abbrev math_bits_TrailingZeros : FuncId := 123
abbrev tumblerref02_By : FuncId := 124
abbrev i_strconv_FormatUint : FuncId := 125
abbrev math_bits_Mul : FuncId := 126
abbrev strings_HasPrefix : FuncId := 127
abbrev strings_Builder_Len : FuncId := 128
abbrev tumblerref02_Plus : FuncId := 129
abbrev tumblerref02_Times : FuncId := 130
abbrev i_bytealg_IndexString : FuncId := 131
abbrev i_bytealg_Cutover : FuncId := 132
abbrev i_bytealg_IndexRabinKarp_string : FuncId := 133
abbrev math_bits_TrailingZeros32 : FuncId := 134
abbrev math_bits_TrailingZeros64 : FuncId := 135
abbrev math_bits_Mul32 : FuncId := 136
abbrev i_stringslite_HasPrefix : FuncId := 137
abbrev i_bytealg_hashStr_string : FuncId := 138
abbrev runtime_boundsError_Error : FuncId := 139
abbrev runtime_boundsError_RuntimeError : FuncId := 140
abbrev runtime_errorString_Error : FuncId := 141
abbrev runtime_errorString_RuntimeError : FuncId := 142
abbrev runtime_plainError_Error : FuncId := 143
abbrev runtime_plainError_RuntimeError : FuncId := 144
abbrev runtime_errorAddressString_Error : FuncId := 145
abbrev runtime_errorAddressString_RuntimeError : FuncId := 146
abbrev runtime_TypeAssertionError_Error : FuncId := 147
abbrev runtime_TypeAssertionError_RuntimeError : FuncId := 148
abbrev runtime_PanicNilError_Error : FuncId := 149
abbrev runtime_PanicNilError_RuntimeError : FuncId := 150
abbrev i_abi_Type_Align : FuncId := 151
abbrev i_runtime_maps_unhashableTypeError_Error : FuncId := 152
abbrev i_runtime_maps_unhashableTypeError_RuntimeError : FuncId := 153
abbrev api_Errno_Error : FuncId := 154
abbrev strings_Builder_Reset : FuncId := 155
abbrev i_abi_Kind_String : FuncId := 156
abbrev gosem_cut_vars : FuncId := 164
end I
namespace B
abbrev tumblerlaw04_LineParses := @Tryd.func3
abbrev tumblerlaw04_LinePlaces := @Tryd.func4
abbrev tumblerlaw04_LineParts := @Tryd.func5
abbrev tumblerlaw04_LineOrder := @Tryd.func6
abbrev tumblerlaw04_LinePrints := @Tryd.func7
abbrev tumblerlaw04_LineDeltas := @Tryd.func8
abbrev tumblerlaw04_LineRight := @Tryd.func9
abbrev line_Parse := @Tryd.func10
abbrev tumblerref04_Parse := @Tryd.func11
abbrev tumblerlaw04_awake := @Tryd.func12
abbrev tumblerref04_Parts := @Tryd.func13
abbrev tumblerref04_Colon := @Tryd.func14
abbrev tumblerlaw04_bare := @Tryd.func15
abbrev tumblerlaw04_Built_text := @Tryd.func16
abbrev micro_Parse := @Tryd.func17
abbrev name_Clean := @Tryd.func18
abbrev line_Print := @Tryd.func19
abbrev tumblerref04_Print := @Tryd.func20
abbrev micro_Print := @Tryd.func21
abbrev line_Check := @Tryd.func22
abbrev strings_IndexByte := @Tryd.func23
abbrev line_cutter := @Tryd.func24
abbrev line_kindOf := @Tryd.func25
abbrev line_takeValue := @Tryd.func26
abbrev line_fields := @Tryd.func27
abbrev tumblerref03_Clean := @Tryd.func28
abbrev tumblerref04_Kind := @Tryd.func29
abbrev tumblerref04_value := @Tryd.func30
abbrev tumblerref04_field := @Tryd.func31
abbrev micro_read := @Tryd.func32
abbrev micro_decimal_worth := @Tryd.func33
abbrev wide_Small := @Tryd.func34
abbrev unicode_utf8_DecodeRuneInString := @Tryd.func35
abbrev name_blank := @Tryd.func36
abbrev strings_Builder_WriteByte := @Tryd.func37
abbrev name_namely := @Tryd.func38
abbrev slices_DeleteFunc_string_string := @Tryd.func39
abbrev strings_Split := @Tryd.func40
abbrev strings_Builder_String := @Tryd.func41
abbrev name_Clean_1 := @Tryd.func42
abbrev strings_Join := @Tryd.func43
abbrev name_Valid := @Tryd.func44
abbrev line_letters := @Tryd.func45
abbrev strconv_FormatInt := @Tryd.func46
abbrev tumblerref04_Check := @Tryd.func47
abbrev tumblerref02_Print := @Tryd.func48
abbrev tumblerref04_Letters := @Tryd.func49
abbrev tumblerref04_digits := @Tryd.func50
abbrev micro_Show := @Tryd.func51
abbrev wide_Of := @Tryd.func52
abbrev line_rated := @Tryd.func53
abbrev line_valueFits := @Tryd.func54
abbrev i_stringslite_IndexByte := @Tryd.func55
abbrev line_cutter_1 := @Tryd.func56
abbrev line_member := @Tryd.func57
abbrev line_stamp := @Tryd.func58
abbrev tumblerref03_rune1 := @Tryd.func59
abbrev tumblerref03_blank := @Tryd.func60
abbrev tumblerref03_Byte := @Tryd.func61
abbrev tumblerref03_Valid := @Tryd.func62
abbrev tumblerref04_Member := @Tryd.func63
abbrev tumblerref02_Parse := @Tryd.func64
abbrev tumblerref04_stamp := @Tryd.func65
abbrev wide_Mul := @Tryd.func66
abbrev wide_Sub := @Tryd.func67
abbrev wide_Add := @Tryd.func68
abbrev micro_tens := @Tryd.func69
abbrev unicode_utf8_decodeRuneInStringSlow := @Tryd.func70
abbrev strings_Builder_copyCheck := @Tryd.func71
abbrev name_sort := @Tryd.func72
abbrev slices_IndexFunc_string_string := @Tryd.func73
abbrev strings_genSplit := @Tryd.func74
abbrev strings_Builder_Grow := @Tryd.func75
abbrev strings_Builder_WriteString := @Tryd.func76
abbrev slices_ContainsFunc_string_string := @Tryd.func77
abbrev name_Valid_1 := @Tryd.func78
abbrev name_bytes := @Tryd.func79
abbrev i_strconv_FormatInt := @Tryd.func80
abbrev tumblerref04_fits := @Tryd.func81
abbrev tumblerref02_Of := @Tryd.func82
abbrev tumblerref02_Text := @Tryd.func83
abbrev wide_Quo := @Tryd.func84
abbrev wide_Print := @Tryd.func85
abbrev wide_Sign := @Tryd.func86
abbrev wide_Neg := @Tryd.func87
abbrev tumblerref03_Sort := @Tryd.func89
abbrev tumblerref03_Cut := @Tryd.func90
abbrev tumblerref03_Bytes := @Tryd.func91
abbrev tumblerref02_taken := @Tryd.func92
abbrev tumblerref02_Small := @Tryd.func93
abbrev wide_amount := @Tryd.func94
abbrev math_bits_Mul64 := @Tryd.func95
abbrev wide_signed := @Tryd.func97
abbrev strings_explode := @Tryd.func100
abbrev strings_Count := @Tryd.func101
abbrev strings_Index := @Tryd.func102
abbrev strings_Builder_grow := @Tryd.func103
abbrev i_strconv_small := @Tryd.func104
abbrev i_strconv_numDigits := @Tryd.func105
abbrev i_strconv_formatBase10 := @Tryd.func106
abbrev i_strconv_formatBits := @Tryd.func107
abbrev tumblerref02_digits := @Tryd.func108
abbrev wide_divided := @Tryd.func109
abbrev strconv_FormatUint := @Tryd.func110
abbrev strings_Repeat := @Tryd.func111
abbrev wide_Cmp := @Tryd.func112
abbrev tumblerref02_Take := @Tryd.func113
abbrev tumblerref02_Worth := @Tryd.func114
abbrev unicode_utf8_RuneCountInString := @Tryd.func115
abbrev i_stringslite_Index := @Tryd.func117
abbrev i_strconv_log10Pow2 := @Tryd.func119
abbrev math_bits_Len64 := @Tryd.func120
abbrev i_strconv_bool2_int := @Tryd.func121
abbrev i_strconv_isPowerOfTwo := @Tryd.func122
abbrev math_bits_TrailingZeros := @Tryd.func123
abbrev tumblerref02_By := @Tryd.func124
abbrev i_strconv_FormatUint := @Tryd.func125
abbrev math_bits_Mul := @Tryd.func126
abbrev strings_HasPrefix := @Tryd.func127
abbrev strings_Builder_Len := @Tryd.func128
abbrev tumblerref02_Plus := @Tryd.func129
abbrev tumblerref02_Times := @Tryd.func130
abbrev i_bytealg_Cutover := @Tryd.func132
abbrev i_bytealg_IndexRabinKarp_string := @Tryd.func133
abbrev math_bits_TrailingZeros32 := @Tryd.func134
abbrev math_bits_TrailingZeros64 := @Tryd.func135
abbrev math_bits_Mul32 := @Tryd.func136
abbrev i_stringslite_HasPrefix := @Tryd.func137
abbrev i_bytealg_hashStr_string := @Tryd.func138
end B
namespace NB
abbrev i_bytealg_IndexByteString := @Tryd.func88
abbrev math_bits_Add64 := @Tryd.func96
abbrev math_bits_Sub64 := @Tryd.func98
abbrev i_abi_NoEscape := @Tryd.func99
abbrev i_bytealg_CountString := @Tryd.func116
abbrev i_bytealg_MakeNoZero := @Tryd.func118
abbrev i_bytealg_IndexString := @Tryd.func131
abbrev runtime_boundsError_Error := @Tryd.func139
abbrev runtime_boundsError_RuntimeError := @Tryd.func140
abbrev runtime_errorString_Error := @Tryd.func141
abbrev runtime_errorString_RuntimeError := @Tryd.func142
abbrev runtime_plainError_Error := @Tryd.func143
abbrev runtime_plainError_RuntimeError := @Tryd.func144
abbrev runtime_errorAddressString_Error := @Tryd.func145
abbrev runtime_errorAddressString_RuntimeError := @Tryd.func146
abbrev runtime_TypeAssertionError_Error := @Tryd.func147
abbrev runtime_TypeAssertionError_RuntimeError := @Tryd.func148
abbrev runtime_PanicNilError_Error := @Tryd.func149
abbrev runtime_PanicNilError_RuntimeError := @Tryd.func150
abbrev i_abi_Type_Align := @Tryd.func151
abbrev i_runtime_maps_unhashableTypeError_Error := @Tryd.func152
abbrev i_runtime_maps_unhashableTypeError_RuntimeError := @Tryd.func153
abbrev api_Errno_Error := @Tryd.func154
abbrev strings_Builder_Reset := @Tryd.func155
abbrev i_abi_Kind_String := @Tryd.func156
abbrev var_s_door_gosem_cut_vars_holds_initialisers_alone_see_the_manifest_s_row_cutvarsword_look_11_test_files_too := @Tryd.func157
abbrev var_s_door_i_strconv_uint64pow10_is_laid_by_its_own_initialiser_plain_data_look_11 := @Tryd.func158
abbrev var_s_door_math_bits_deBruijn32tab_is_laid_by_its_own_initialiser_plain_data_look_11 := @Tryd.func159
abbrev var_s_door_math_bits_deBruijn64tab_is_laid_by_its_own_initialiser_plain_data_look_11 := @Tryd.func160
abbrev var_s_door_the_look_of_gosem_cut_vars_went_over_the_folder_that_the_caller_named_as_the_repository_s_root_look_11 := @Tryd.func161
abbrev var_s_door_unicode_utf8_acceptRanges_is_laid_by_its_own_initialiser_plain_data_look_11 := @Tryd.func162
abbrev var_s_door_unicode_utf8_first_is_laid_by_its_text_alone_pinned_1 := @Tryd.func163
end NB
namespace Y
abbrev abi_BoundsErrorCode : TypeId := 6
abbrev runtime_boundsError : TypeId := 8
abbrev runtime_errorString : TypeId := 10
abbrev runtime_plainError : TypeId := 11
abbrev runtime_errorAddressString : TypeId := 14
abbrev maps_unhashableTypeError : TypeId := 19
abbrev api_Kind : TypeId := 22
abbrev api_Event : TypeId := 24
abbrev api_Errno : TypeId := 25
abbrev tumblerlaw04_Built : TypeId := 37
abbrev tumblerref04_Part : TypeId := 63
abbrev micro_decimal : TypeId := 71
abbrev api_Wide : TypeId := 76
abbrev strings_Builder : TypeId := 84
abbrev error : TypeId := 89
abbrev tumblerref02_Mag : TypeId := 117
abbrev wide_limbs : TypeId := 130
abbrev utf8_acceptRange : TypeId := 139
abbrev tumblerref02_Decimal : TypeId := 158
abbrev runtime_TypeAssertionError : TypeId := 184
abbrev runtime_PanicNilError : TypeId := 187
abbrev abi_TFlag : TypeId := 188
abbrev abi_Kind : TypeId := 189
abbrev abi_NameOff : TypeId := 191
abbrev abi_TypeOff : TypeId := 192
abbrev abi_Type : TypeId := 194
abbrev sl_tumblerref04_Part : TypeId := 32
abbrev sl_string : TypeId := 68
abbrev sl_uint8 : TypeId := 82
abbrev arr_2_uint64 : TypeId := 129
abbrev arr_7_int64 : TypeId := 136
abbrev arr_256_uint8 : TypeId := 137
abbrev arr_16_utf8_acceptRange : TypeId := 140
abbrev arr_24_uint8 : TypeId := 146
abbrev arr_20_uint64 : TypeId := 165
abbrev arr_65_uint8 : TypeId := 167
abbrev arr_32_uint8 : TypeId := 181
abbrev arr_64_uint8 : TypeId := 182
abbrev arr_0_runtime_PanicNilError : TypeId := 185
abbrev int64 : TypeId := 2
abbrev int : TypeId := 3
abbrev bool : TypeId := 4
abbrev uint8 : TypeId := 5
abbrev string : TypeId := 9
abbrev uintptr : TypeId := 12
abbrev int32 : TypeId := 21
abbrev uint : TypeId := 69
abbrev uint64 : TypeId := 74
abbrev uint32 : TypeId := 166
end Y
namespace G
abbrev maxLen : Nat := 2
abbrev utfA : Nat := 0
abbrev utfB : Nat := 1
end G
def tys : Tys := [
(1, ⟨1, 8, false, [.nilFunc], .func, []⟩),
(2, ⟨1, 8, false, [.int .i64 0], (.int .i64), []⟩),
(3, ⟨1, 8, false, [.int .i64 0], (.int .i64), []⟩),
(4, ⟨1, 1, false, [.bool false], .bool, []⟩),
(5, ⟨1, 1, false, [.int .u8 0], (.int .u8), []⟩),
(6, ⟨1, 1, false, [.int .u8 0], (.int .u8), []⟩),
(7, ⟨4, 24, true, [.int .i64 0, .int .i64 0, .bool false, .int .u8 0], (.struct [(0, 1, false), (1, 1, false), (2, 1, false), (3, 1, false)]), [.i, .i, .b, .i]⟩),
(8, ⟨4, 24, true, [.int .i64 0, .int .i64 0, .bool false, .int .u8 0], (.struct [(0, 1, false), (1, 1, false), (2, 1, false), (3, 1, false)]), [.i, .i, .b, .i]⟩),
(9, ⟨1, 16, false, [.string ⟨#[]⟩], .string, []⟩),
(10, ⟨1, 16, false, [.string ⟨#[]⟩], .string, []⟩),
(11, ⟨1, 16, false, [.string ⟨#[]⟩], .string, []⟩),
(12, ⟨1, 8, false, [.int .u64 0], (.int .u64), []⟩),
(13, ⟨2, 24, true, [.string ⟨#[]⟩, .int .u64 0], (.struct [(0, 1, false), (1, 1, false)]), []⟩),
(14, ⟨2, 24, true, [.string ⟨#[]⟩, .int .u64 0], (.struct [(0, 1, false), (1, 1, false)]), []⟩),
(15, ⟨1, 8, false, [.pointer none], (.ptr 4 184), []⟩),
(16, ⟨1, 8, false, [.pointer none], (.ptr 0 187), []⟩),
(17, ⟨1, 8, false, [.pointer none], (.ptr 11 194), []⟩),
(18, ⟨1, 8, true, [.pointer none], (.struct [(0, 1, false)]), []⟩),
(19, ⟨1, 8, true, [.pointer none], (.struct [(0, 1, false)]), []⟩),
(20, ⟨1, 16, false, [.nilIface], .iface, []⟩),
(21, ⟨1, 4, false, [.int .i32 0], (.int .i32), []⟩),
(22, ⟨1, 8, false, [.int .i64 0], (.int .i64), []⟩),
(23, ⟨8, 80, true, [.string ⟨#[]⟩, .int .i64 0, .int .i64 0, .bool false, .string ⟨#[]⟩, .int .i64 0, .bool false, .int .i64 0], (.struct [(0, 1, false), (1, 1, false), (2, 1, false), (3, 1, false), (4, 1, false), (5, 1, false), (6, 1, false), (7, 1, false)]), [.s, .i, .i, .b, .s, .i, .b, .i]⟩),
(24, ⟨8, 80, true, [.string ⟨#[]⟩, .int .i64 0, .int .i64 0, .bool false, .string ⟨#[]⟩, .int .i64 0, .bool false, .int .i64 0], (.struct [(0, 1, false), (1, 1, false), (2, 1, false), (3, 1, false), (4, 1, false), (5, 1, false), (6, 1, false), (7, 1, false)]), [.s, .i, .i, .b, .s, .i, .b, .i]⟩),
(25, ⟨1, 8, false, [.int .i64 0], (.int .i64), []⟩),
(27, ⟨1, 8, false, [.nilFunc], .func, []⟩),
(29, ⟨1, 8, false, [.nilFunc], .func, []⟩),
(30, ⟨1, 8, false, [.nilFunc], .func, []⟩),
(31, ⟨1, 8, false, [.nilFunc], .func, []⟩),
(32, ⟨1, 24, false, [.slice none 0 0], (.slice 2 24 true [.string ⟨#[]⟩, .int .i64 0] 63), []⟩),
(33, ⟨1, 8, false, [.nilFunc], .func, []⟩),
(34, ⟨1, 8, false, [.nilFunc], .func, []⟩),
(35, ⟨1, 8, false, [.nilFunc], .func, []⟩),
(36, ⟨5, 72, true, [.string ⟨#[]⟩, .string ⟨#[]⟩, .int .i64 0, .string ⟨#[]⟩, .string ⟨#[]⟩], (.struct [(0, 1, false), (1, 1, false), (2, 1, false), (3, 1, false), (4, 1, false)]), [.s, .s, .i, .s, .s]⟩),
(37, ⟨5, 72, true, [.string ⟨#[]⟩, .string ⟨#[]⟩, .int .i64 0, .string ⟨#[]⟩, .string ⟨#[]⟩], (.struct [(0, 1, false), (1, 1, false), (2, 1, false), (3, 1, false), (4, 1, false)]), [.s, .s, .i, .s, .s]⟩),
(38, ⟨1, 8, false, [.nilFunc], .func, []⟩),
(40, ⟨1, 8, false, [.nilFunc], .func, []⟩),
(42, ⟨1, 8, false, [.nilFunc], .func, []⟩),
(43, ⟨1, 8, false, [.nilFunc], .func, []⟩),
(44, ⟨1, 8, false, [.nilFunc], .func, []⟩),
(46, ⟨1, 8, false, [.nilFunc], .func, []⟩),
(48, ⟨1, 8, false, [.nilFunc], .func, []⟩),
(49, ⟨1, 8, false, [.nilFunc], .func, []⟩),
(50, ⟨1, 8, false, [.nilFunc], .func, []⟩),
(51, ⟨1, 8, false, [.nilFunc], .func, []⟩),
(52, ⟨1, 8, false, [.nilFunc], .func, []⟩),
(53, ⟨1, 8, false, [.nilFunc], .func, []⟩),
(54, ⟨1, 8, false, [.nilFunc], .func, []⟩),
(55, ⟨1, 8, false, [.nilFunc], .func, []⟩),
(57, ⟨1, 8, false, [.nilFunc], .func, []⟩),
(58, ⟨1, 8, false, [.nilFunc], .func, []⟩),
(59, ⟨1, 8, false, [.pointer none], (.ptr 8 24), []⟩),
(61, ⟨1, 8, false, [.nilFunc], .func, []⟩),
(62, ⟨2, 24, true, [.string ⟨#[]⟩, .int .i64 0], (.struct [(0, 1, false), (1, 1, false)]), [.s, .i]⟩),
(63, ⟨2, 24, true, [.string ⟨#[]⟩, .int .i64 0], (.struct [(0, 1, false), (1, 1, false)]), [.s, .i]⟩),
(65, ⟨1, 8, false, [.nilFunc], .func, []⟩),
(67, ⟨1, 8, false, [.nilFunc], .func, []⟩),
(68, ⟨1, 24, false, [.slice none 0 0], (.slice 1 16 false [.string ⟨#[]⟩] 9), []⟩),
(69, ⟨1, 8, false, [.int .u64 0], (.int .u64), []⟩),
(70, ⟨3, 32, true, [.bool false, .string ⟨#[]⟩, .int .i64 0], (.struct [(0, 1, false), (1, 1, false), (2, 1, false)]), [.b, .s, .i]⟩),
(71, ⟨3, 32, true, [.bool false, .string ⟨#[]⟩, .int .i64 0], (.struct [(0, 1, false), (1, 1, false), (2, 1, false)]), [.b, .s, .i]⟩),
(73, ⟨1, 8, false, [.nilFunc], .func, []⟩),
(74, ⟨1, 8, false, [.int .u64 0], (.int .u64), []⟩),
(75, ⟨2, 16, true, [.int .i64 0, .int .u64 0], (.struct [(0, 1, false), (1, 1, false)]), [.i, .i]⟩),
(76, ⟨2, 16, true, [.int .i64 0, .int .u64 0], (.struct [(0, 1, false), (1, 1, false)]), [.i, .i]⟩),
(78, ⟨1, 8, false, [.nilFunc], .func, []⟩),
(80, ⟨1, 8, false, [.nilFunc], .func, []⟩),
(81, ⟨1, 8, false, [.pointer none], (.ptr 2 84), []⟩),
(82, ⟨1, 24, false, [.slice none 0 0], (.slice 1 1 false [.int .u8 0] 5), []⟩),
(83, ⟨2, 32, true, [.pointer none, .slice none 0 0], (.struct [(0, 1, false), (1, 1, false)]), []⟩),
(84, ⟨2, 32, true, [.pointer none, .slice none 0 0], (.struct [(0, 1, false), (1, 1, false)]), []⟩),
(86, ⟨1, 8, false, [.nilFunc], .func, []⟩),
(87, ⟨1, 8, false, [.nilFunc], .func, []⟩),
(88, ⟨1, 16, false, [.nilIface], .iface, []⟩),
(89, ⟨1, 16, false, [.nilIface], .iface, []⟩),
(90, ⟨1, 8, false, [.nilFunc], .func, []⟩),
(91, ⟨1, 8, false, [.nilFunc], .func, []⟩),
(92, ⟨1, 8, false, [.nilFunc], .func, []⟩),
(93, ⟨1, 8, false, [.nilFunc], .func, []⟩),
(94, ⟨1, 8, false, [.nilFunc], .func, []⟩),
(95, ⟨1, 8, false, [.nilFunc], .func, []⟩),
(96, ⟨1, 8, false, [.nilFunc], .func, []⟩),
(97, ⟨1, 8, false, [.nilFunc], .func, []⟩),
(98, ⟨1, 8, false, [.nilFunc], .func, []⟩),
(99, ⟨1, 8, false, [.nilFunc], .func, []⟩),
(100, ⟨1, 8, false, [.nilFunc], .func, []⟩),
(102, ⟨1, 8, false, [.nilFunc], .func, []⟩),
(103, ⟨1, 8, false, [.nilFunc], .func, []⟩),
(105, ⟨1, 8, false, [.nilFunc], .func, []⟩),
(106, ⟨1, 8, false, [.nilFunc], .func, []⟩),
(107, ⟨1, 8, false, [.nilFunc], .func, []⟩),
(108, ⟨1, 8, false, [.nilFunc], .func, []⟩),
(109, ⟨1, 8, false, [.nilFunc], .func, []⟩),
(110, ⟨1, 8, false, [.nilFunc], .func, []⟩),
(111, ⟨1, 8, false, [.pointer none], (.ptr 1 5), []⟩),
(112, ⟨1, 8, false, [.nilFunc], .func, []⟩),
(114, ⟨1, 8, false, [.nilFunc], .func, []⟩),
(115, ⟨1, 8, false, [.nilFunc], .func, []⟩),
(116, ⟨3, 24, true, [.int .u64 0, .int .u64 0, .bool false], (.struct [(0, 1, false), (1, 1, false), (2, 1, false)]), [.i, .i, .b]⟩),
(117, ⟨3, 24, true, [.int .u64 0, .int .u64 0, .bool false], (.struct [(0, 1, false), (1, 1, false), (2, 1, false)]), [.i, .i, .b]⟩),
(119, ⟨1, 8, false, [.nilFunc], .func, []⟩),
(120, ⟨1, 8, false, [.nilFunc], .func, []⟩),
(122, ⟨1, 8, false, [.nilFunc], .func, []⟩),
(123, ⟨1, 8, false, [.nilFunc], .func, []⟩),
(124, ⟨1, 8, false, [.nilFunc], .func, []⟩),
(125, ⟨1, 8, false, [.nilFunc], .func, []⟩),
(127, ⟨1, 8, false, [.nilFunc], .func, []⟩),
(128, ⟨1, 8, false, [.nilFunc], .func, []⟩),
(129, ⟨2, 16, true, [.int .u64 0, .int .u64 0], (.arr 2 1 false), [.i, .i]⟩),
(130, ⟨2, 16, true, [.int .u64 0, .int .u64 0], (.arr 2 1 false), [.i, .i]⟩),
(131, ⟨1, 8, false, [.nilFunc], .func, []⟩),
(133, ⟨1, 8, false, [.nilFunc], .func, []⟩),
(134, ⟨1, 8, false, [.nilFunc], .func, []⟩),
(135, ⟨1, 8, false, [.nilFunc], .func, []⟩),
(136, ⟨7, 56, true, [.int .i64 0, .int .i64 0, .int .i64 0, .int .i64 0, .int .i64 0, .int .i64 0, .int .i64 0], (.arr 7 1 false), [.i, .i, .i, .i, .i, .i, .i]⟩),
(137, ⟨256, 256, true, [.int .u8 0, .int .u8 0, .int .u8 0, .int .u8 0, .int .u8 0, .int .u8 0, .int .u8 0, .int .u8 0, .int .u8 0, .int .u8 0, .int .u8 0, .int .u8 0, .int .u8 0, .int .u8 0, .int .u8 0, .int .u8 0, .int .u8 0, .int .u8 0, .int .u8 0, .int .u8 0, .int .u8 0, .int .u8 0, .int .u8 0, .int .u8 0, .int .u8 0, .int .u8 0, .int .u8 0, .int .u8 0, .int .u8 0, .int .u8 0, .int .u8 0, .int .u8 0, .int .u8 0, .int .u8 0, .int .u8 0, .int .u8 0, .int .u8 0, .int .u8 0, .int .u8 0, .int .u8 0, .int .u8 0, .int .u8 0, .int .u8 0, .int .u8 0, .int .u8 0, .int .u8 0, .int .u8 0, .int .u8 0, .int .u8 0, .int .u8 0, .int .u8 0, .int .u8 0, .int .u8 0, .int .u8 0, .int .u8 0, .int .u8 0, .int .u8 0, .int .u8 0, .int .u8 0, .int .u8 0, .int .u8 0, .int .u8 0, .int .u8 0, .int .u8 0, .int .u8 0, .int .u8 0, .int .u8 0, .int .u8 0, .int .u8 0, .int .u8 0, .int .u8 0, .int .u8 0, .int .u8 0, .int .u8 0, .int .u8 0, .int .u8 0, .int .u8 0, .int .u8 0, .int .u8 0, .int .u8 0, .int .u8 0, .int .u8 0, .int .u8 0, .int .u8 0, .int .u8 0, .int .u8 0, .int .u8 0, .int .u8 0, .int .u8 0, .int .u8 0, .int .u8 0, .int .u8 0, .int .u8 0, .int .u8 0, .int .u8 0, .int .u8 0, .int .u8 0, .int .u8 0, .int .u8 0, .int .u8 0, .int .u8 0, .int .u8 0, .int .u8 0, .int .u8 0, .int .u8 0, .int .u8 0, .int .u8 0, .int .u8 0, .int .u8 0, .int .u8 0, .int .u8 0, .int .u8 0, .int .u8 0, .int .u8 0, .int .u8 0, .int .u8 0, .int .u8 0, .int .u8 0, .int .u8 0, .int .u8 0, .int .u8 0, .int .u8 0, .int .u8 0, .int .u8 0, .int .u8 0, .int .u8 0, .int .u8 0, .int .u8 0, .int .u8 0, .int .u8 0, .int .u8 0, .int .u8 0, .int .u8 0, .int .u8 0, .int .u8 0, .int .u8 0, .int .u8 0, .int .u8 0, .int .u8 0, .int .u8 0, .int .u8 0, .int .u8 0, .int .u8 0, .int .u8 0, .int .u8 0, .int .u8 0, .int .u8 0, .int .u8 0, .int .u8 0, .int .u8 0, .int .u8 0, .int .u8 0, .int .u8 0, .int .u8 0, .int .u8 0, .int .u8 0, .int .u8 0, .int .u8 0, .int .u8 0, .int .u8 0, .int .u8 0, .int .u8 0, .int .u8 0, .int .u8 0, .int .u8 0, .int .u8 0, .int .u8 0, .int .u8 0, .int .u8 0, .int .u8 0, .int .u8 0, .int .u8 0, .int .u8 0, .int .u8 0, .int .u8 0, .int .u8 0, .int .u8 0, .int .u8 0, .int .u8 0, .int .u8 0, .int .u8 0, .int .u8 0, .int .u8 0, .int .u8 0, .int .u8 0, .int .u8 0, .int .u8 0, .int .u8 0, .int .u8 0, .int .u8 0, .int .u8 0, .int .u8 0, .int .u8 0, .int .u8 0, .int .u8 0, .int .u8 0, .int .u8 0, .int .u8 0, .int .u8 0, .int .u8 0, .int .u8 0, .int .u8 0, .int .u8 0, .int .u8 0, .int .u8 0, .int .u8 0, .int .u8 0, .int .u8 0, .int .u8 0, .int .u8 0, .int .u8 0, .int .u8 0, .int .u8 0, .int .u8 0, .int .u8 0, .int .u8 0, .int .u8 0, .int .u8 0, .int .u8 0, .int .u8 0, .int .u8 0, .int .u8 0, .int .u8 0, .int .u8 0, .int .u8 0, .int .u8 0, .int .u8 0, .int .u8 0, .int .u8 0, .int .u8 0, .int .u8 0, .int .u8 0, .int .u8 0, .int .u8 0, .int .u8 0, .int .u8 0, .int .u8 0, .int .u8 0, .int .u8 0, .int .u8 0, .int .u8 0, .int .u8 0, .int .u8 0, .int .u8 0, .int .u8 0, .int .u8 0, .int .u8 0, .int .u8 0, .int .u8 0, .int .u8 0, .int .u8 0, .int .u8 0, .int .u8 0, .int .u8 0, .int .u8 0, .int .u8 0], (.arr 256 1 false), []⟩),
(138, ⟨2, 2, true, [.int .u8 0, .int .u8 0], (.struct [(0, 1, false), (1, 1, false)]), [.i, .i]⟩),
(139, ⟨2, 2, true, [.int .u8 0, .int .u8 0], (.struct [(0, 1, false), (1, 1, false)]), [.i, .i]⟩),
(140, ⟨32, 32, true, [.int .u8 0, .int .u8 0, .int .u8 0, .int .u8 0, .int .u8 0, .int .u8 0, .int .u8 0, .int .u8 0, .int .u8 0, .int .u8 0, .int .u8 0, .int .u8 0, .int .u8 0, .int .u8 0, .int .u8 0, .int .u8 0, .int .u8 0, .int .u8 0, .int .u8 0, .int .u8 0, .int .u8 0, .int .u8 0, .int .u8 0, .int .u8 0, .int .u8 0, .int .u8 0, .int .u8 0, .int .u8 0, .int .u8 0, .int .u8 0, .int .u8 0, .int .u8 0], (.arr 16 2 true), [.i, .i, .i, .i, .i, .i, .i, .i, .i, .i, .i, .i, .i, .i, .i, .i, .i, .i, .i, .i, .i, .i, .i, .i, .i, .i, .i, .i, .i, .i, .i, .i]⟩),
(141, ⟨1, 8, false, [.pointer none], .uptr, []⟩),
(142, ⟨1, 8, false, [.nilFunc], .func, []⟩),
(143, ⟨1, 8, false, [.nilFunc], .func, []⟩),
(144, ⟨1, 8, false, [.nilFunc], .func, []⟩),
(145, ⟨1, 8, false, [.nilFunc], .func, []⟩),
(146, ⟨24, 24, true, [.int .u8 0, .int .u8 0, .int .u8 0, .int .u8 0, .int .u8 0, .int .u8 0, .int .u8 0, .int .u8 0, .int .u8 0, .int .u8 0, .int .u8 0, .int .u8 0, .int .u8 0, .int .u8 0, .int .u8 0, .int .u8 0, .int .u8 0, .int .u8 0, .int .u8 0, .int .u8 0, .int .u8 0, .int .u8 0, .int .u8 0, .int .u8 0], (.arr 24 1 false), []⟩),
(147, ⟨1, 8, false, [.nilFunc], .func, []⟩),
(148, ⟨1, 8, false, [.nilFunc], .func, []⟩),
(150, ⟨1, 8, false, [.nilFunc], .func, []⟩),
(151, ⟨1, 8, false, [.nilFunc], .func, []⟩),
(153, ⟨1, 8, false, [.nilFunc], .func, []⟩),
(154, ⟨1, 8, false, [.nilFunc], .func, []⟩),
(155, ⟨1, 8, false, [.nilFunc], .func, []⟩),
(156, ⟨1, 8, false, [.nilFunc], .func, []⟩),
(157, ⟨3, 40, true, [.bool false, .string ⟨#[]⟩, .string ⟨#[]⟩], (.struct [(0, 1, false), (1, 1, false), (2, 1, false)]), [.b, .s, .s]⟩),
(158, ⟨3, 40, true, [.bool false, .string ⟨#[]⟩, .string ⟨#[]⟩], (.struct [(0, 1, false), (1, 1, false), (2, 1, false)]), [.b, .s, .s]⟩),
(160, ⟨1, 8, false, [.nilFunc], .func, []⟩),
(161, ⟨1, 8, false, [.nilFunc], .func, []⟩),
(162, ⟨1, 8, false, [.nilFunc], .func, []⟩),
(163, ⟨1, 8, false, [.nilFunc], .func, []⟩),
(164, ⟨1, 8, false, [.nilFunc], .func, []⟩),
(165, ⟨20, 160, true, [.int .u64 0, .int .u64 0, .int .u64 0, .int .u64 0, .int .u64 0, .int .u64 0, .int .u64 0, .int .u64 0, .int .u64 0, .int .u64 0, .int .u64 0, .int .u64 0, .int .u64 0, .int .u64 0, .int .u64 0, .int .u64 0, .int .u64 0, .int .u64 0, .int .u64 0, .int .u64 0], (.arr 20 1 false), [.i, .i, .i, .i, .i, .i, .i, .i, .i, .i, .i, .i, .i, .i, .i, .i, .i, .i, .i, .i]⟩),
(166, ⟨1, 4, false, [.int .u32 0], (.int .u32), []⟩),
(167, ⟨65, 65, true, [.int .u8 0, .int .u8 0, .int .u8 0, .int .u8 0, .int .u8 0, .int .u8 0, .int .u8 0, .int .u8 0, .int .u8 0, .int .u8 0, .int .u8 0, .int .u8 0, .int .u8 0, .int .u8 0, .int .u8 0, .int .u8 0, .int .u8 0, .int .u8 0, .int .u8 0, .int .u8 0, .int .u8 0, .int .u8 0, .int .u8 0, .int .u8 0, .int .u8 0, .int .u8 0, .int .u8 0, .int .u8 0, .int .u8 0, .int .u8 0, .int .u8 0, .int .u8 0, .int .u8 0, .int .u8 0, .int .u8 0, .int .u8 0, .int .u8 0, .int .u8 0, .int .u8 0, .int .u8 0, .int .u8 0, .int .u8 0, .int .u8 0, .int .u8 0, .int .u8 0, .int .u8 0, .int .u8 0, .int .u8 0, .int .u8 0, .int .u8 0, .int .u8 0, .int .u8 0, .int .u8 0, .int .u8 0, .int .u8 0, .int .u8 0, .int .u8 0, .int .u8 0, .int .u8 0, .int .u8 0, .int .u8 0, .int .u8 0, .int .u8 0, .int .u8 0, .int .u8 0], (.arr 65 1 false), []⟩),
(168, ⟨1, 8, false, [.nilFunc], .func, []⟩),
(169, ⟨1, 8, false, [.nilFunc], .func, []⟩),
(171, ⟨1, 8, false, [.nilFunc], .func, []⟩),
(173, ⟨1, 8, false, [.nilFunc], .func, []⟩),
(174, ⟨1, 8, false, [.nilFunc], .func, []⟩),
(175, ⟨1, 8, false, [.nilFunc], .func, []⟩),
(176, ⟨1, 8, false, [.nilFunc], .func, []⟩),
(177, ⟨1, 8, false, [.nilFunc], .func, []⟩),
(179, ⟨1, 8, false, [.nilFunc], .func, []⟩),
(180, ⟨1, 8, false, [.nilFunc], .func, []⟩),
(181, ⟨32, 32, true, [.int .u8 0, .int .u8 0, .int .u8 0, .int .u8 0, .int .u8 0, .int .u8 0, .int .u8 0, .int .u8 0, .int .u8 0, .int .u8 0, .int .u8 0, .int .u8 0, .int .u8 0, .int .u8 0, .int .u8 0, .int .u8 0, .int .u8 0, .int .u8 0, .int .u8 0, .int .u8 0, .int .u8 0, .int .u8 0, .int .u8 0, .int .u8 0, .int .u8 0, .int .u8 0, .int .u8 0, .int .u8 0, .int .u8 0, .int .u8 0, .int .u8 0, .int .u8 0], (.arr 32 1 false), []⟩),
(182, ⟨64, 64, true, [.int .u8 0, .int .u8 0, .int .u8 0, .int .u8 0, .int .u8 0, .int .u8 0, .int .u8 0, .int .u8 0, .int .u8 0, .int .u8 0, .int .u8 0, .int .u8 0, .int .u8 0, .int .u8 0, .int .u8 0, .int .u8 0, .int .u8 0, .int .u8 0, .int .u8 0, .int .u8 0, .int .u8 0, .int .u8 0, .int .u8 0, .int .u8 0, .int .u8 0, .int .u8 0, .int .u8 0, .int .u8 0, .int .u8 0, .int .u8 0, .int .u8 0, .int .u8 0, .int .u8 0, .int .u8 0, .int .u8 0, .int .u8 0, .int .u8 0, .int .u8 0, .int .u8 0, .int .u8 0, .int .u8 0, .int .u8 0, .int .u8 0, .int .u8 0, .int .u8 0, .int .u8 0, .int .u8 0, .int .u8 0, .int .u8 0, .int .u8 0, .int .u8 0, .int .u8 0, .int .u8 0, .int .u8 0, .int .u8 0, .int .u8 0, .int .u8 0, .int .u8 0, .int .u8 0, .int .u8 0, .int .u8 0, .int .u8 0, .int .u8 0, .int .u8 0], (.arr 64 1 false), []⟩),
(183, ⟨4, 40, true, [.pointer none, .pointer none, .pointer none, .string ⟨#[]⟩], (.struct [(0, 1, false), (1, 1, false), (2, 1, false), (3, 1, false)]), []⟩),
(184, ⟨4, 40, true, [.pointer none, .pointer none, .pointer none, .string ⟨#[]⟩], (.struct [(0, 1, false), (1, 1, false), (2, 1, false), (3, 1, false)]), []⟩),
(185, ⟨0, 0, true, [], (.arr 0 1 false), []⟩),
(186, ⟨0, 0, true, [], (.struct [(0, 0, true)]), []⟩),
(187, ⟨0, 0, true, [], (.struct [(0, 0, true)]), []⟩),
(188, ⟨1, 1, false, [.int .u8 0], (.int .u8), []⟩),
(189, ⟨1, 1, false, [.int .u8 0], (.int .u8), []⟩),
(190, ⟨1, 8, false, [.nilFunc], .func, []⟩),
(191, ⟨1, 4, false, [.int .i32 0], (.int .i32), []⟩),
(192, ⟨1, 4, false, [.int .i32 0], (.int .i32), []⟩),
(193, ⟨11, 48, true, [.int .u64 0, .int .u64 0, .int .u32 0, .int .u8 0, .int .u8 0, .int .u8 0, .int .u8 0, .nilFunc, .pointer none, .int .i32 0, .int .i32 0], (.struct [(0, 1, false), (1, 1, false), (2, 1, false), (3, 1, false), (4, 1, false), (5, 1, false), (6, 1, false), (7, 1, false), (8, 1, false), (9, 1, false), (10, 1, false)]), []⟩),
(194, ⟨11, 48, true, [.int .u64 0, .int .u64 0, .int .u32 0, .int .u8 0, .int .u8 0, .int .u8 0, .int .u8 0, .nilFunc, .pointer none, .int .i32 0, .int .i32 0], (.struct [(0, 1, false), (1, 1, false), (2, 1, false), (3, 1, false), (4, 1, false), (5, 1, false), (6, 1, false), (7, 1, false), (8, 1, false), (9, 1, false), (10, 1, false)]), []⟩)]
theorem tys_ok : TysOk Tryd.prog tys ∧ TysPl Tryd.prog tys := tysChk_ok (by kernel_rfl)
end Go.Proofs.YtioahngbfdfcaaaDoor
