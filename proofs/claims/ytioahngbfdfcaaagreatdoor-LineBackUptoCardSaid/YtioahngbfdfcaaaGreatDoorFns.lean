import Derived.Test.YtioahngbfdfcaaaGreatDoorDenB
import Derived.Laws.Externs
import Derived.Shelf.Spec.BitsCarry
import Derived.Test.YtioahngbfdfcaaaGreatDoorProg
set_option linter.unusedVariables false
namespace Go.Proofs.YtioahngbfdfcaaaGreatDoor
open Go Go.Den
namespace I
abbrev tumblerlaw04_LineBack : FuncId := 3
abbrev line_Print : FuncId := 4
abbrev tumblerref04_Check : FuncId := 5
abbrev tumblerlaw04_awake : FuncId := 6
abbrev line_Parse : FuncId := 7
abbrev line_Check : FuncId := 8
abbrev micro_Print : FuncId := 9
abbrev line_letters : FuncId := 10
abbrev strconv_FormatInt : FuncId := 11
abbrev tumblerref03_Valid : FuncId := 12
abbrev tumblerref04_fits : FuncId := 13
abbrev strings_IndexByte : FuncId := 14
abbrev name_Clean : FuncId := 15
abbrev line_cutter : FuncId := 16
abbrev line_kindOf : FuncId := 17
abbrev line_takeValue : FuncId := 18
abbrev line_fields : FuncId := 19
abbrev line_rated : FuncId := 20
abbrev name_Valid : FuncId := 21
abbrev line_valueFits : FuncId := 22
abbrev micro_Show : FuncId := 23
abbrev wide_Of : FuncId := 24
abbrev i_strconv_FormatInt : FuncId := 25
abbrev tumblerref03_Cut : FuncId := 26
abbrev tumblerref03_Bytes : FuncId := 27
abbrev tumblerref04_Member : FuncId := 28
abbrev i_stringslite_IndexByte : FuncId := 29
abbrev unicode_utf8_DecodeRuneInString : FuncId := 30
abbrev name_blank : FuncId := 31
abbrev strings_Builder_WriteByte : FuncId := 32
abbrev name_namely : FuncId := 33
abbrev slices_DeleteFunc_string_string : FuncId := 34
abbrev strings_Split : FuncId := 35
abbrev strings_Builder_String : FuncId := 36
abbrev name_Clean_1 : FuncId := 37
abbrev strings_Join : FuncId := 38
abbrev line_cutter_1 : FuncId := 39
abbrev line_member : FuncId := 40
abbrev micro_Parse : FuncId := 41
abbrev line_stamp : FuncId := 42
abbrev slices_ContainsFunc_string_string : FuncId := 43
abbrev name_Valid_1 : FuncId := 44
abbrev name_bytes : FuncId := 45
abbrev wide_Quo : FuncId := 46
abbrev wide_Print : FuncId := 47
abbrev wide_Sign : FuncId := 48
abbrev wide_Neg : FuncId := 49
abbrev wide_Small : FuncId := 50
abbrev i_strconv_small : FuncId := 51
abbrev i_strconv_numDigits : FuncId := 52
abbrev i_strconv_formatBase10 : FuncId := 53
abbrev i_strconv_formatBits : FuncId := 54
abbrev tumblerref03_Byte : FuncId := 55
abbrev i_bytealg_IndexByteString : FuncId := 56
abbrev unicode_utf8_decodeRuneInStringSlow : FuncId := 57
abbrev strings_Builder_copyCheck : FuncId := 58
abbrev name_sort : FuncId := 59
abbrev slices_IndexFunc_string_string : FuncId := 60
abbrev strings_genSplit : FuncId := 61
abbrev strings_Builder_Grow : FuncId := 62
abbrev strings_Builder_WriteString : FuncId := 63
abbrev micro_read : FuncId := 64
abbrev micro_decimal_worth : FuncId := 65
abbrev wide_divided : FuncId := 66
abbrev wide_amount : FuncId := 67
abbrev wide_signed : FuncId := 68
abbrev strconv_FormatUint : FuncId := 69
abbrev strings_Repeat : FuncId := 70
abbrev wide_Cmp : FuncId := 71
abbrev wide_Sub : FuncId := 72
abbrev i_strconv_log10Pow2 : FuncId := 73
abbrev math_bits_Len64 : FuncId := 74
abbrev i_strconv_bool2_int : FuncId := 75
abbrev i_strconv_isPowerOfTwo : FuncId := 76
abbrev math_bits_TrailingZeros : FuncId := 77
abbrev tumblerref03_Sort : FuncId := 78
abbrev i_abi_NoEscape : FuncId := 79
abbrev strings_explode : FuncId := 80
abbrev strings_Count : FuncId := 81
abbrev strings_Index : FuncId := 82
abbrev strings_Builder_grow : FuncId := 83
abbrev wide_Mul : FuncId := 84
abbrev wide_Add : FuncId := 85
abbrev micro_tens : FuncId := 86
abbrev math_bits_Sub64 : FuncId := 87
abbrev i_strconv_FormatUint : FuncId := 88
abbrev math_bits_Mul : FuncId := 89
abbrev strings_HasPrefix : FuncId := 90
abbrev strings_Builder_Len : FuncId := 91
abbrev math_bits_TrailingZeros32 : FuncId := 92
abbrev math_bits_TrailingZeros64 : FuncId := 93
abbrev unicode_utf8_RuneCountInString : FuncId := 94
abbrev i_bytealg_CountString : FuncId := 95
abbrev i_stringslite_Index : FuncId := 96
abbrev i_bytealg_MakeNoZero : FuncId := 97
abbrev math_bits_Mul64 : FuncId := 98
abbrev math_bits_Add64 : FuncId := 99
abbrev math_bits_Mul32 : FuncId := 100
abbrev i_stringslite_HasPrefix : FuncId := 101
abbrev i_bytealg_IndexString : FuncId := 102
abbrev i_bytealg_Cutover : FuncId := 103
abbrev i_bytealg_IndexRabinKarp_string : FuncId := 104
abbrev i_bytealg_hashStr_string : FuncId := 105
abbrev runtime_boundsError_Error : FuncId := 106
abbrev runtime_boundsError_RuntimeError : FuncId := 107
abbrev runtime_errorString_Error : FuncId := 108
abbrev runtime_errorString_RuntimeError : FuncId := 109
abbrev runtime_plainError_Error : FuncId := 110
abbrev runtime_plainError_RuntimeError : FuncId := 111
abbrev runtime_errorAddressString_Error : FuncId := 112
abbrev runtime_errorAddressString_RuntimeError : FuncId := 113
abbrev runtime_TypeAssertionError_Error : FuncId := 114
abbrev runtime_TypeAssertionError_RuntimeError : FuncId := 115
abbrev runtime_PanicNilError_Error : FuncId := 116
abbrev runtime_PanicNilError_RuntimeError : FuncId := 117
abbrev i_abi_Type_Align : FuncId := 118
abbrev i_runtime_maps_unhashableTypeError_Error : FuncId := 119
abbrev i_runtime_maps_unhashableTypeError_RuntimeError : FuncId := 120
abbrev api_Errno_Error : FuncId := 121
abbrev strings_Builder_Reset : FuncId := 122
abbrev i_abi_Kind_String : FuncId := 123
abbrev gosem_cut_vars : FuncId := 131
end I
namespace B
abbrev tumblerlaw04_LineBack := @Tryz.func3
abbrev line_Print := @Tryz.func4
abbrev tumblerref04_Check := @Tryz.func5
abbrev tumblerlaw04_awake := @Tryz.func6
abbrev line_Parse := @Tryz.func7
abbrev line_Check := @Tryz.func8
abbrev micro_Print := @Tryz.func9
abbrev line_letters := @Tryz.func10
abbrev strconv_FormatInt := @Tryz.func11
abbrev tumblerref03_Valid := @Tryz.func12
abbrev tumblerref04_fits := @Tryz.func13
abbrev strings_IndexByte := @Tryz.func14
abbrev name_Clean := @Tryz.func15
abbrev line_cutter := @Tryz.func16
abbrev line_kindOf := @Tryz.func17
abbrev line_takeValue := @Tryz.func18
abbrev line_fields := @Tryz.func19
abbrev line_rated := @Tryz.func20
abbrev name_Valid := @Tryz.func21
abbrev line_valueFits := @Tryz.func22
abbrev micro_Show := @Tryz.func23
abbrev wide_Of := @Tryz.func24
abbrev i_strconv_FormatInt := @Tryz.func25
abbrev tumblerref03_Cut := @Tryz.func26
abbrev tumblerref03_Bytes := @Tryz.func27
abbrev tumblerref04_Member := @Tryz.func28
abbrev i_stringslite_IndexByte := @Tryz.func29
abbrev unicode_utf8_DecodeRuneInString := @Tryz.func30
abbrev name_blank := @Tryz.func31
abbrev strings_Builder_WriteByte := @Tryz.func32
abbrev name_namely := @Tryz.func33
abbrev slices_DeleteFunc_string_string := @Tryz.func34
abbrev strings_Split := @Tryz.func35
abbrev strings_Builder_String := @Tryz.func36
abbrev name_Clean_1 := @Tryz.func37
abbrev strings_Join := @Tryz.func38
abbrev line_cutter_1 := @Tryz.func39
abbrev line_member := @Tryz.func40
abbrev micro_Parse := @Tryz.func41
abbrev line_stamp := @Tryz.func42
abbrev slices_ContainsFunc_string_string := @Tryz.func43
abbrev name_Valid_1 := @Tryz.func44
abbrev name_bytes := @Tryz.func45
abbrev wide_Quo := @Tryz.func46
abbrev wide_Print := @Tryz.func47
abbrev wide_Sign := @Tryz.func48
abbrev wide_Neg := @Tryz.func49
abbrev wide_Small := @Tryz.func50
abbrev i_strconv_small := @Tryz.func51
abbrev i_strconv_numDigits := @Tryz.func52
abbrev i_strconv_formatBase10 := @Tryz.func53
abbrev i_strconv_formatBits := @Tryz.func54
abbrev tumblerref03_Byte := @Tryz.func55
abbrev unicode_utf8_decodeRuneInStringSlow := @Tryz.func57
abbrev strings_Builder_copyCheck := @Tryz.func58
abbrev name_sort := @Tryz.func59
abbrev slices_IndexFunc_string_string := @Tryz.func60
abbrev strings_genSplit := @Tryz.func61
abbrev strings_Builder_Grow := @Tryz.func62
abbrev strings_Builder_WriteString := @Tryz.func63
abbrev micro_read := @Tryz.func64
abbrev micro_decimal_worth := @Tryz.func65
abbrev wide_divided := @Tryz.func66
abbrev wide_amount := @Tryz.func67
abbrev wide_signed := @Tryz.func68
abbrev strconv_FormatUint := @Tryz.func69
abbrev strings_Repeat := @Tryz.func70
abbrev wide_Cmp := @Tryz.func71
abbrev wide_Sub := @Tryz.func72
abbrev i_strconv_log10Pow2 := @Tryz.func73
abbrev math_bits_Len64 := @Tryz.func74
abbrev i_strconv_bool2_int := @Tryz.func75
abbrev i_strconv_isPowerOfTwo := @Tryz.func76
abbrev math_bits_TrailingZeros := @Tryz.func77
abbrev tumblerref03_Sort := @Tryz.func78
abbrev strings_explode := @Tryz.func80
abbrev strings_Count := @Tryz.func81
abbrev strings_Index := @Tryz.func82
abbrev strings_Builder_grow := @Tryz.func83
abbrev wide_Mul := @Tryz.func84
abbrev wide_Add := @Tryz.func85
abbrev micro_tens := @Tryz.func86
abbrev i_strconv_FormatUint := @Tryz.func88
abbrev math_bits_Mul := @Tryz.func89
abbrev strings_HasPrefix := @Tryz.func90
abbrev strings_Builder_Len := @Tryz.func91
abbrev math_bits_TrailingZeros32 := @Tryz.func92
abbrev math_bits_TrailingZeros64 := @Tryz.func93
abbrev unicode_utf8_RuneCountInString := @Tryz.func94
abbrev i_stringslite_Index := @Tryz.func96
abbrev math_bits_Mul64 := @Tryz.func98
abbrev math_bits_Mul32 := @Tryz.func100
abbrev i_stringslite_HasPrefix := @Tryz.func101
abbrev i_bytealg_Cutover := @Tryz.func103
abbrev i_bytealg_IndexRabinKarp_string := @Tryz.func104
abbrev i_bytealg_hashStr_string := @Tryz.func105
end B
namespace NB
abbrev i_bytealg_IndexByteString := @Tryz.func56
abbrev i_abi_NoEscape := @Tryz.func79
abbrev math_bits_Sub64 := @Tryz.func87
abbrev i_bytealg_CountString := @Tryz.func95
abbrev i_bytealg_MakeNoZero := @Tryz.func97
abbrev math_bits_Add64 := @Tryz.func99
abbrev i_bytealg_IndexString := @Tryz.func102
abbrev runtime_boundsError_Error := @Tryz.func106
abbrev runtime_boundsError_RuntimeError := @Tryz.func107
abbrev runtime_errorString_Error := @Tryz.func108
abbrev runtime_errorString_RuntimeError := @Tryz.func109
abbrev runtime_plainError_Error := @Tryz.func110
abbrev runtime_plainError_RuntimeError := @Tryz.func111
abbrev runtime_errorAddressString_Error := @Tryz.func112
abbrev runtime_errorAddressString_RuntimeError := @Tryz.func113
abbrev runtime_TypeAssertionError_Error := @Tryz.func114
abbrev runtime_TypeAssertionError_RuntimeError := @Tryz.func115
abbrev runtime_PanicNilError_Error := @Tryz.func116
abbrev runtime_PanicNilError_RuntimeError := @Tryz.func117
abbrev i_abi_Type_Align := @Tryz.func118
abbrev i_runtime_maps_unhashableTypeError_Error := @Tryz.func119
abbrev i_runtime_maps_unhashableTypeError_RuntimeError := @Tryz.func120
abbrev api_Errno_Error := @Tryz.func121
abbrev strings_Builder_Reset := @Tryz.func122
abbrev i_abi_Kind_String := @Tryz.func123
abbrev var_s_door_gosem_cut_vars_holds_initialisers_alone_see_the_manifest_s_row_cutvarsword_look_11_test_files_too := @Tryz.func124
abbrev var_s_door_i_strconv_uint64pow10_is_laid_by_its_own_initialiser_plain_data_look_11 := @Tryz.func125
abbrev var_s_door_math_bits_deBruijn32tab_is_laid_by_its_own_initialiser_plain_data_look_11 := @Tryz.func126
abbrev var_s_door_math_bits_deBruijn64tab_is_laid_by_its_own_initialiser_plain_data_look_11 := @Tryz.func127
abbrev var_s_door_the_look_of_gosem_cut_vars_went_over_the_folder_that_the_caller_named_as_the_repository_s_root_look_11 := @Tryz.func128
abbrev var_s_door_unicode_utf8_acceptRanges_is_laid_by_its_own_initialiser_plain_data_look_11 := @Tryz.func129
abbrev var_s_door_unicode_utf8_first_is_laid_by_its_text_alone_pinned_1 := @Tryz.func130
end NB
namespace Y
abbrev abi_BoundsErrorCode : TypeId := 6
abbrev runtime_boundsError : TypeId := 8
abbrev runtime_errorString : TypeId := 10
abbrev runtime_plainError : TypeId := 11
abbrev runtime_errorAddressString : TypeId := 14
abbrev maps_unhashableTypeError : TypeId := 19
abbrev api_Kind : TypeId := 22
abbrev api_Event : TypeId := 24
abbrev api_Errno : TypeId := 25
abbrev api_Wide : TypeId := 54
abbrev strings_Builder : TypeId := 61
abbrev error : TypeId := 66
abbrev micro_decimal : TypeId := 99
abbrev wide_limbs : TypeId := 104
abbrev utf8_acceptRange : TypeId := 122
abbrev runtime_TypeAssertionError : TypeId := 146
abbrev runtime_PanicNilError : TypeId := 149
abbrev abi_TFlag : TypeId := 150
abbrev abi_Kind : TypeId := 151
abbrev abi_NameOff : TypeId := 153
abbrev abi_TypeOff : TypeId := 154
abbrev abi_Type : TypeId := 156
abbrev sl_string : TypeId := 56
abbrev sl_uint8 : TypeId := 59
abbrev arr_24_uint8 : TypeId := 86
abbrev arr_2_uint64 : TypeId := 103
abbrev arr_20_uint64 : TypeId := 115
abbrev arr_65_uint8 : TypeId := 117
abbrev arr_256_uint8 : TypeId := 120
abbrev arr_16_utf8_acceptRange : TypeId := 123
abbrev arr_7_int64 : TypeId := 139
abbrev arr_32_uint8 : TypeId := 142
abbrev arr_64_uint8 : TypeId := 143
abbrev arr_0_runtime_PanicNilError : TypeId := 147
abbrev int64 : TypeId := 2
abbrev int : TypeId := 3
abbrev bool : TypeId := 4
abbrev uint8 : TypeId := 5
abbrev string : TypeId := 9
abbrev uintptr : TypeId := 12
abbrev int32 : TypeId := 21
abbrev uint64 : TypeId := 52
abbrev uint : TypeId := 84
abbrev uint32 : TypeId := 116
end Y
namespace G
abbrev maxLen : Nat := 1
abbrev utfA : Nat := 2
abbrev utfB : Nat := 3
end G
def tys : Tys := [
(1, ⟨1, 8, false, [.nilFunc], .func, []⟩),
(2, ⟨1, 8, false, [.int .i64 0], (.int .i64), []⟩),
(3, ⟨1, 8, false, [.int .i64 0], (.int .i64), []⟩),
(4, ⟨1, 1, false, [.bool false], .bool, []⟩),
(5, ⟨1, 1, false, [.int .u8 0], (.int .u8), []⟩),
(6, ⟨1, 1, false, [.int .u8 0], (.int .u8), []⟩),
(7, ⟨4, 24, true, [.int .i64 0, .int .i64 0, .bool false, .int .u8 0], (.struct [(0, 1, false), (1, 1, false), (2, 1, false), (3, 1, false)]), [.i, .i, .b, .i]⟩),
(8, ⟨4, 24, true, [.int .i64 0, .int .i64 0, .bool false, .int .u8 0], (.struct [(0, 1, false), (1, 1, false), (2, 1, false), (3, 1, false)]), [.i, .i, .b, .i]⟩),
(9, ⟨1, 16, false, [.string ⟨#[]⟩], .string, []⟩),
(10, ⟨1, 16, false, [.string ⟨#[]⟩], .string, []⟩),
(11, ⟨1, 16, false, [.string ⟨#[]⟩], .string, []⟩),
(12, ⟨1, 8, false, [.int .u64 0], (.int .u64), []⟩),
(13, ⟨2, 24, true, [.string ⟨#[]⟩, .int .u64 0], (.struct [(0, 1, false), (1, 1, false)]), []⟩),
(14, ⟨2, 24, true, [.string ⟨#[]⟩, .int .u64 0], (.struct [(0, 1, false), (1, 1, false)]), []⟩),
(15, ⟨1, 8, false, [.pointer none], (.ptr 4 146), []⟩),
(16, ⟨1, 8, false, [.pointer none], (.ptr 0 149), []⟩),
(17, ⟨1, 8, false, [.pointer none], (.ptr 11 156), []⟩),
(18, ⟨1, 8, true, [.pointer none], (.struct [(0, 1, false)]), []⟩),
(19, ⟨1, 8, true, [.pointer none], (.struct [(0, 1, false)]), []⟩),
(20, ⟨1, 16, false, [.nilIface], .iface, []⟩),
(21, ⟨1, 4, false, [.int .i32 0], (.int .i32), []⟩),
(22, ⟨1, 8, false, [.int .i64 0], (.int .i64), []⟩),
(23, ⟨8, 80, true, [.string ⟨#[]⟩, .int .i64 0, .int .i64 0, .bool false, .string ⟨#[]⟩, .int .i64 0, .bool false, .int .i64 0], (.struct [(0, 1, false), (1, 1, false), (2, 1, false), (3, 1, false), (4, 1, false), (5, 1, false), (6, 1, false), (7, 1, false)]), [.s, .i, .i, .b, .s, .i, .b, .i]⟩),
(24, ⟨8, 80, true, [.string ⟨#[]⟩, .int .i64 0, .int .i64 0, .bool false, .string ⟨#[]⟩, .int .i64 0, .bool false, .int .i64 0], (.struct [(0, 1, false), (1, 1, false), (2, 1, false), (3, 1, false), (4, 1, false), (5, 1, false), (6, 1, false), (7, 1, false)]), [.s, .i, .i, .b, .s, .i, .b, .i]⟩),
(25, ⟨1, 8, false, [.int .i64 0], (.int .i64), []⟩),
(27, ⟨1, 8, false, [.nilFunc], .func, []⟩),
(28, ⟨1, 8, false, [.nilFunc], .func, []⟩),
(29, ⟨1, 8, false, [.nilFunc], .func, []⟩),
(31, ⟨1, 8, false, [.nilFunc], .func, []⟩),
(32, ⟨1, 8, false, [.nilFunc], .func, []⟩),
(33, ⟨1, 8, false, [.nilFunc], .func, []⟩),
(34, ⟨1, 8, false, [.nilFunc], .func, []⟩),
(35, ⟨1, 8, false, [.nilFunc], .func, []⟩),
(36, ⟨1, 8, false, [.nilFunc], .func, []⟩),
(37, ⟨1, 8, false, [.nilFunc], .func, []⟩),
(38, ⟨1, 8, false, [.nilFunc], .func, []⟩),
(40, ⟨1, 8, false, [.nilFunc], .func, []⟩),
(41, ⟨1, 8, false, [.nilFunc], .func, []⟩),
(42, ⟨1, 8, false, [.nilFunc], .func, []⟩),
(44, ⟨1, 8, false, [.nilFunc], .func, []⟩),
(45, ⟨1, 8, false, [.nilFunc], .func, []⟩),
(46, ⟨1, 8, false, [.pointer none], (.ptr 8 24), []⟩),
(48, ⟨1, 8, false, [.nilFunc], .func, []⟩),
(50, ⟨1, 8, false, [.nilFunc], .func, []⟩),
(51, ⟨1, 8, false, [.nilFunc], .func, []⟩),
(52, ⟨1, 8, false, [.int .u64 0], (.int .u64), []⟩),
(53, ⟨2, 16, true, [.int .i64 0, .int .u64 0], (.struct [(0, 1, false), (1, 1, false)]), [.i, .i]⟩),
(54, ⟨2, 16, true, [.int .i64 0, .int .u64 0], (.struct [(0, 1, false), (1, 1, false)]), [.i, .i]⟩),
(55, ⟨1, 8, false, [.nilFunc], .func, []⟩),
(56, ⟨1, 24, false, [.slice none 0 0], (.slice 1 16 false [.string ⟨#[]⟩] 9), []⟩),
(57, ⟨1, 8, false, [.nilFunc], .func, []⟩),
(58, ⟨1, 8, false, [.pointer none], (.ptr 2 61), []⟩),
(59, ⟨1, 24, false, [.slice none 0 0], (.slice 1 1 false [.int .u8 0] 5), []⟩),
(60, ⟨2, 32, true, [.pointer none, .slice none 0 0], (.struct [(0, 1, false), (1, 1, false)]), []⟩),
(61, ⟨2, 32, true, [.pointer none, .slice none 0 0], (.struct [(0, 1, false), (1, 1, false)]), []⟩),
(63, ⟨1, 8, false, [.nilFunc], .func, []⟩),
(64, ⟨1, 8, false, [.nilFunc], .func, []⟩),
(65, ⟨1, 16, false, [.nilIface], .iface, []⟩),
(66, ⟨1, 16, false, [.nilIface], .iface, []⟩),
(67, ⟨1, 8, false, [.nilFunc], .func, []⟩),
(68, ⟨1, 8, false, [.nilFunc], .func, []⟩),
(69, ⟨1, 8, false, [.nilFunc], .func, []⟩),
(70, ⟨1, 8, false, [.nilFunc], .func, []⟩),
(71, ⟨1, 8, false, [.nilFunc], .func, []⟩),
(72, ⟨1, 8, false, [.nilFunc], .func, []⟩),
(74, ⟨1, 8, false, [.nilFunc], .func, []⟩),
(76, ⟨1, 8, false, [.nilFunc], .func, []⟩),
(77, ⟨1, 8, false, [.nilFunc], .func, []⟩),
(79, ⟨1, 8, false, [.nilFunc], .func, []⟩),
(80, ⟨1, 8, false, [.nilFunc], .func, []⟩),
(82, ⟨1, 8, false, [.nilFunc], .func, []⟩),
(83, ⟨1, 8, false, [.nilFunc], .func, []⟩),
(84, ⟨1, 8, false, [.int .u64 0], (.int .u64), []⟩),
(85, ⟨1, 8, false, [.nilFunc], .func, []⟩),
(86, ⟨24, 24, true, [.int .u8 0, .int .u8 0, .int .u8 0, .int .u8 0, .int .u8 0, .int .u8 0, .int .u8 0, .int .u8 0, .int .u8 0, .int .u8 0, .int .u8 0, .int .u8 0, .int .u8 0, .int .u8 0, .int .u8 0, .int .u8 0, .int .u8 0, .int .u8 0, .int .u8 0, .int .u8 0, .int .u8 0, .int .u8 0, .int .u8 0, .int .u8 0], (.arr 24 1 false), []⟩),
(87, ⟨1, 8, false, [.nilFunc], .func, []⟩),
(88, ⟨1, 8, false, [.nilFunc], .func, []⟩),
(90, ⟨1, 8, false, [.nilFunc], .func, []⟩),
(91, ⟨1, 8, false, [.nilFunc], .func, []⟩),
(92, ⟨1, 8, false, [.nilFunc], .func, []⟩),
(93, ⟨1, 8, false, [.nilFunc], .func, []⟩),
(94, ⟨1, 8, false, [.pointer none], (.ptr 1 5), []⟩),
(95, ⟨1, 8, false, [.nilFunc], .func, []⟩),
(97, ⟨1, 8, false, [.nilFunc], .func, []⟩),
(98, ⟨3, 32, true, [.bool false, .string ⟨#[]⟩, .int .i64 0], (.struct [(0, 1, false), (1, 1, false), (2, 1, false)]), [.b, .s, .i]⟩),
(99, ⟨3, 32, true, [.bool false, .string ⟨#[]⟩, .int .i64 0], (.struct [(0, 1, false), (1, 1, false), (2, 1, false)]), [.b, .s, .i]⟩),
(101, ⟨1, 8, false, [.nilFunc], .func, []⟩),
(102, ⟨1, 8, false, [.nilFunc], .func, []⟩),
(103, ⟨2, 16, true, [.int .u64 0, .int .u64 0], (.arr 2 1 false), [.i, .i]⟩),
(104, ⟨2, 16, true, [.int .u64 0, .int .u64 0], (.arr 2 1 false), [.i, .i]⟩),
(106, ⟨1, 8, false, [.nilFunc], .func, []⟩),
(107, ⟨1, 8, false, [.nilFunc], .func, []⟩),
(108, ⟨1, 8, false, [.nilFunc], .func, []⟩),
(109, ⟨1, 8, false, [.nilFunc], .func, []⟩),
(110, ⟨1, 8, false, [.nilFunc], .func, []⟩),
(111, ⟨1, 8, false, [.nilFunc], .func, []⟩),
(112, ⟨1, 8, false, [.nilFunc], .func, []⟩),
(113, ⟨1, 8, false, [.nilFunc], .func, []⟩),
(114, ⟨1, 8, false, [.nilFunc], .func, []⟩),
(115, ⟨20, 160, true, [.int .u64 0, .int .u64 0, .int .u64 0, .int .u64 0, .int .u64 0, .int .u64 0, .int .u64 0, .int .u64 0, .int .u64 0, .int .u64 0, .int .u64 0, .int .u64 0, .int .u64 0, .int .u64 0, .int .u64 0, .int .u64 0, .int .u64 0, .int .u64 0, .int .u64 0, .int .u64 0], (.arr 20 1 false), [.i, .i, .i, .i, .i, .i, .i, .i, .i, .i, .i, .i, .i, .i, .i, .i, .i, .i, .i, .i]⟩),
(116, ⟨1, 4, false, [.int .u32 0], (.int .u32), []⟩),
(117, ⟨65, 65, true, [.int .u8 0, .int .u8 0, .int .u8 0, .int .u8 0, .int .u8 0, .int .u8 0, .int .u8 0, .int .u8 0, .int .u8 0, .int .u8 0, .int .u8 0, .int .u8 0, .int .u8 0, .int .u8 0, .int .u8 0, .int .u8 0, .int .u8 0, .int .u8 0, .int .u8 0, .int .u8 0, .int .u8 0, .int .u8 0, .int .u8 0, .int .u8 0, .int .u8 0, .int .u8 0, .int .u8 0, .int .u8 0, .int .u8 0, .int .u8 0, .int .u8 0, .int .u8 0, .int .u8 0, .int .u8 0, .int .u8 0, .int .u8 0, .int .u8 0, .int .u8 0, .int .u8 0, .int .u8 0, .int .u8 0, .int .u8 0, .int .u8 0, .int .u8 0, .int .u8 0, .int .u8 0, .int .u8 0, .int .u8 0, .int .u8 0, .int .u8 0, .int .u8 0, .int .u8 0, .int .u8 0, .int .u8 0, .int .u8 0, .int .u8 0, .int .u8 0, .int .u8 0, .int .u8 0, .int .u8 0, .int .u8 0, .int .u8 0, .int .u8 0, .int .u8 0, .int .u8 0], (.arr 65 1 false), []⟩),
(118, ⟨1, 8, false, [.nilFunc], .func, []⟩),
(119, ⟨1, 8, false, [.nilFunc], .func, []⟩),
(120, ⟨256, 256, true, [.int .u8 0, .int .u8 0, .int .u8 0, .int .u8 0, .int .u8 0, .int .u8 0, .int .u8 0, .int .u8 0, .int .u8 0, .int .u8 0, .int .u8 0, .int .u8 0, .int .u8 0, .int .u8 0, .int .u8 0, .int .u8 0, .int .u8 0, .int .u8 0, .int .u8 0, .int .u8 0, .int .u8 0, .int .u8 0, .int .u8 0, .int .u8 0, .int .u8 0, .int .u8 0, .int .u8 0, .int .u8 0, .int .u8 0, .int .u8 0, .int .u8 0, .int .u8 0, .int .u8 0, .int .u8 0, .int .u8 0, .int .u8 0, .int .u8 0, .int .u8 0, .int .u8 0, .int .u8 0, .int .u8 0, .int .u8 0, .int .u8 0, .int .u8 0, .int .u8 0, .int .u8 0, .int .u8 0, .int .u8 0, .int .u8 0, .int .u8 0, .int .u8 0, .int .u8 0, .int .u8 0, .int .u8 0, .int .u8 0, .int .u8 0, .int .u8 0, .int .u8 0, .int .u8 0, .int .u8 0, .int .u8 0, .int .u8 0, .int .u8 0, .int .u8 0, .int .u8 0, .int .u8 0, .int .u8 0, .int .u8 0, .int .u8 0, .int .u8 0, .int .u8 0, .int .u8 0, .int .u8 0, .int .u8 0, .int .u8 0, .int .u8 0, .int .u8 0, .int .u8 0, .int .u8 0, .int .u8 0, .int .u8 0, .int .u8 0, .int .u8 0, .int .u8 0, .int .u8 0, .int .u8 0, .int .u8 0, .int .u8 0, .int .u8 0, .int .u8 0, .int .u8 0, .int .u8 0, .int .u8 0, .int .u8 0, .int .u8 0, .int .u8 0, .int .u8 0, .int .u8 0, .int .u8 0, .int .u8 0, .int .u8 0, .int .u8 0, .int .u8 0, .int .u8 0, .int .u8 0, .int .u8 0, .int .u8 0, .int .u8 0, .int .u8 0, .int .u8 0, .int .u8 0, .int .u8 0, .int .u8 0, .int .u8 0, .int .u8 0, .int .u8 0, .int .u8 0, .int .u8 0, .int .u8 0, .int .u8 0, .int .u8 0, .int .u8 0, .int .u8 0, .int .u8 0, .int .u8 0, .int .u8 0, .int .u8 0, .int .u8 0, .int .u8 0, .int .u8 0, .int .u8 0, .int .u8 0, .int .u8 0, .int .u8 0, .int .u8 0, .int .u8 0, .int .u8 0, .int .u8 0, .int .u8 0, .int .u8 0, .int .u8 0, .int .u8 0, .int .u8 0, .int .u8 0, .int .u8 0, .int .u8 0, .int .u8 0, .int .u8 0, .int .u8 0, .int .u8 0, .int .u8 0, .int .u8 0, .int .u8 0, .int .u8 0, .int .u8 0, .int .u8 0, .int .u8 0, .int .u8 0, .int .u8 0, .int .u8 0, .int .u8 0, .int .u8 0, .int .u8 0, .int .u8 0, .int .u8 0, .int .u8 0, .int .u8 0, .int .u8 0, .int .u8 0, .int .u8 0, .int .u8 0, .int .u8 0, .int .u8 0, .int .u8 0, .int .u8 0, .int .u8 0, .int .u8 0, .int .u8 0, .int .u8 0, .int .u8 0, .int .u8 0, .int .u8 0, .int .u8 0, .int .u8 0, .int .u8 0, .int .u8 0, .int .u8 0, .int .u8 0, .int .u8 0, .int .u8 0, .int .u8 0, .int .u8 0, .int .u8 0, .int .u8 0, .int .u8 0, .int .u8 0, .int .u8 0, .int .u8 0, .int .u8 0, .int .u8 0, .int .u8 0, .int .u8 0, .int .u8 0, .int .u8 0, .int .u8 0, .int .u8 0, .int .u8 0, .int .u8 0, .int .u8 0, .int .u8 0, .int .u8 0, .int .u8 0, .int .u8 0, .int .u8 0, .int .u8 0, .int .u8 0, .int .u8 0, .int .u8 0, .int .u8 0, .int .u8 0, .int .u8 0, .int .u8 0, .int .u8 0, .int .u8 0, .int .u8 0, .int .u8 0, .int .u8 0, .int .u8 0, .int .u8 0, .int .u8 0, .int .u8 0, .int .u8 0, .int .u8 0, .int .u8 0, .int .u8 0, .int .u8 0, .int .u8 0, .int .u8 0, .int .u8 0, .int .u8 0, .int .u8 0, .int .u8 0, .int .u8 0, .int .u8 0, .int .u8 0, .int .u8 0, .int .u8 0, .int .u8 0, .int .u8 0, .int .u8 0, .int .u8 0, .int .u8 0, .int .u8 0, .int .u8 0, .int .u8 0, .int .u8 0], (.arr 256 1 false), []⟩),
(121, ⟨2, 2, true, [.int .u8 0, .int .u8 0], (.struct [(0, 1, false), (1, 1, false)]), [.i, .i]⟩),
(122, ⟨2, 2, true, [.int .u8 0, .int .u8 0], (.struct [(0, 1, false), (1, 1, false)]), [.i, .i]⟩),
(123, ⟨32, 32, true, [.int .u8 0, .int .u8 0, .int .u8 0, .int .u8 0, .int .u8 0, .int .u8 0, .int .u8 0, .int .u8 0, .int .u8 0, .int .u8 0, .int .u8 0, .int .u8 0, .int .u8 0, .int .u8 0, .int .u8 0, .int .u8 0, .int .u8 0, .int .u8 0, .int .u8 0, .int .u8 0, .int .u8 0, .int .u8 0, .int .u8 0, .int .u8 0, .int .u8 0, .int .u8 0, .int .u8 0, .int .u8 0, .int .u8 0, .int .u8 0, .int .u8 0, .int .u8 0], (.arr 16 2 true), [.i, .i, .i, .i, .i, .i, .i, .i, .i, .i, .i, .i, .i, .i, .i, .i, .i, .i, .i, .i, .i, .i, .i, .i, .i, .i, .i, .i, .i, .i, .i, .i]⟩),
(124, ⟨1, 8, false, [.pointer none], .uptr, []⟩),
(125, ⟨1, 8, false, [.nilFunc], .func, []⟩),
(126, ⟨1, 8, false, [.nilFunc], .func, []⟩),
(127, ⟨1, 8, false, [.nilFunc], .func, []⟩),
(128, ⟨1, 8, false, [.nilFunc], .func, []⟩),
(130, ⟨1, 8, false, [.nilFunc], .func, []⟩),
(132, ⟨1, 8, false, [.nilFunc], .func, []⟩),
(133, ⟨1, 8, false, [.nilFunc], .func, []⟩),
(134, ⟨1, 8, false, [.nilFunc], .func, []⟩),
(135, ⟨1, 8, false, [.nilFunc], .func, []⟩),
(136, ⟨1, 8, false, [.nilFunc], .func, []⟩),
(137, ⟨1, 8, false, [.nilFunc], .func, []⟩),
(138, ⟨1, 8, false, [.nilFunc], .func, []⟩),
(139, ⟨7, 56, true, [.int .i64 0, .int .i64 0, .int .i64 0, .int .i64 0, .int .i64 0, .int .i64 0, .int .i64 0], (.arr 7 1 false), [.i, .i, .i, .i, .i, .i, .i]⟩),
(141, ⟨1, 8, false, [.nilFunc], .func, []⟩),
(142, ⟨32, 32, true, [.int .u8 0, .int .u8 0, .int .u8 0, .int .u8 0, .int .u8 0, .int .u8 0, .int .u8 0, .int .u8 0, .int .u8 0, .int .u8 0, .int .u8 0, .int .u8 0, .int .u8 0, .int .u8 0, .int .u8 0, .int .u8 0, .int .u8 0, .int .u8 0, .int .u8 0, .int .u8 0, .int .u8 0, .int .u8 0, .int .u8 0, .int .u8 0, .int .u8 0, .int .u8 0, .int .u8 0, .int .u8 0, .int .u8 0, .int .u8 0, .int .u8 0, .int .u8 0], (.arr 32 1 false), []⟩),
(143, ⟨64, 64, true, [.int .u8 0, .int .u8 0, .int .u8 0, .int .u8 0, .int .u8 0, .int .u8 0, .int .u8 0, .int .u8 0, .int .u8 0, .int .u8 0, .int .u8 0, .int .u8 0, .int .u8 0, .int .u8 0, .int .u8 0, .int .u8 0, .int .u8 0, .int .u8 0, .int .u8 0, .int .u8 0, .int .u8 0, .int .u8 0, .int .u8 0, .int .u8 0, .int .u8 0, .int .u8 0, .int .u8 0, .int .u8 0, .int .u8 0, .int .u8 0, .int .u8 0, .int .u8 0, .int .u8 0, .int .u8 0, .int .u8 0, .int .u8 0, .int .u8 0, .int .u8 0, .int .u8 0, .int .u8 0, .int .u8 0, .int .u8 0, .int .u8 0, .int .u8 0, .int .u8 0, .int .u8 0, .int .u8 0, .int .u8 0, .int .u8 0, .int .u8 0, .int .u8 0, .int .u8 0, .int .u8 0, .int .u8 0, .int .u8 0, .int .u8 0, .int .u8 0, .int .u8 0, .int .u8 0, .int .u8 0, .int .u8 0, .int .u8 0, .int .u8 0, .int .u8 0], (.arr 64 1 false), []⟩),
(144, ⟨1, 8, false, [.nilFunc], .func, []⟩),
(145, ⟨4, 40, true, [.pointer none, .pointer none, .pointer none, .string ⟨#[]⟩], (.struct [(0, 1, false), (1, 1, false), (2, 1, false), (3, 1, false)]), []⟩),
(146, ⟨4, 40, true, [.pointer none, .pointer none, .pointer none, .string ⟨#[]⟩], (.struct [(0, 1, false), (1, 1, false), (2, 1, false), (3, 1, false)]), []⟩),
(147, ⟨0, 0, true, [], (.arr 0 1 false), []⟩),
(148, ⟨0, 0, true, [], (.struct [(0, 0, true)]), []⟩),
(149, ⟨0, 0, true, [], (.struct [(0, 0, true)]), []⟩),
(150, ⟨1, 1, false, [.int .u8 0], (.int .u8), []⟩),
(151, ⟨1, 1, false, [.int .u8 0], (.int .u8), []⟩),
(152, ⟨1, 8, false, [.nilFunc], .func, []⟩),
(153, ⟨1, 4, false, [.int .i32 0], (.int .i32), []⟩),
(154, ⟨1, 4, false, [.int .i32 0], (.int .i32), []⟩),
(155, ⟨11, 48, true, [.int .u64 0, .int .u64 0, .int .u32 0, .int .u8 0, .int .u8 0, .int .u8 0, .int .u8 0, .nilFunc, .pointer none, .int .i32 0, .int .i32 0], (.struct [(0, 1, false), (1, 1, false), (2, 1, false), (3, 1, false), (4, 1, false), (5, 1, false), (6, 1, false), (7, 1, false), (8, 1, false), (9, 1, false), (10, 1, false)]), []⟩),
(156, ⟨11, 48, true, [.int .u64 0, .int .u64 0, .int .u32 0, .int .u8 0, .int .u8 0, .int .u8 0, .int .u8 0, .nilFunc, .pointer none, .int .i32 0, .int .i32 0], (.struct [(0, 1, false), (1, 1, false), (2, 1, false), (3, 1, false), (4, 1, false), (5, 1, false), (6, 1, false), (7, 1, false), (8, 1, false), (9, 1, false), (10, 1, false)]), []⟩)]
theorem tys_ok : TysOk Tryz.prog tys ∧ TysPl Tryz.prog tys := tysChk_ok (by kernel_rfl)
end Go.Proofs.YtioahngbfdfcaaaGreatDoor
