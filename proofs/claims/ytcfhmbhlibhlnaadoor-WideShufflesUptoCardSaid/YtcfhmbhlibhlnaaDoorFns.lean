import Derived.Test.YtcfhmbhlibhlnaaDoorDenB
import Derived.Laws.Externs
import Derived.Shelf.Spec.BitsCarry
import Derived.Test.YtcfhmbhlibhlnaaDoorProg
set_option linter.unusedVariables false
namespace Go.Proofs.YtcfhmbhlibhlnaaDoor
open Go Go.Den
namespace I
abbrev tumblerlaw01_WidePrints : FuncId := 3
abbrev tumblerlaw01_WideMuls : FuncId := 4
abbrev tumblerlaw01_WideOrders : FuncId := 5
abbrev tumblerlaw01_WideQuos : FuncId := 6
abbrev tumblerlaw01_WideSums : FuncId := 7
abbrev tumblerlaw01_WideRoots : FuncId := 8
abbrev tumblerlaw01_WideAdds : FuncId := 9
abbrev tumblerlaw01_WideLaws : FuncId := 10
abbrev tumblerlaw01_WideShuffles : FuncId := 11
abbrev tumblerlaw01_WideSigns : FuncId := 12
abbrev tumblerlaw01_WideSquares : FuncId := 13
abbrev tumblerlaw01_WideDivides : FuncId := 14
abbrev tumblerlaw01_WideParses : FuncId := 15
abbrev tumblerlaw01_WideBack : FuncId := 16
abbrev tumblerlaw02_MicroShows : FuncId := 17
abbrev tumblerlaw02_MicroPrints : FuncId := 18
abbrev tumblerlaw02_MicroWideBack : FuncId := 19
abbrev tumblerlaw02_MicroBack : FuncId := 20
abbrev tumblerlaw02_MicroParses : FuncId := 21
abbrev tumblerlaw02_MicroReads : FuncId := 22
abbrev tumblerlaw02_MicroShort : FuncId := 23
abbrev tumblerlaw02_MicroSame : FuncId := 24
abbrev wide_Print : FuncId := 25
abbrev tumblerref01_Print : FuncId := 26
abbrev wide_Mul : FuncId := 27
abbrev tumblerref01_Mul : FuncId := 28
abbrev tumblerlaw01_alive : FuncId := 29
abbrev wide_Cmp : FuncId := 30
abbrev wide_Add : FuncId := 31
abbrev wide_Quo : FuncId := 32
abbrev tumblerref01_Quo : FuncId := 33
abbrev wide_Sum : FuncId := 34
abbrev tumblerref01_Sum : FuncId := 35
abbrev wide_Root : FuncId := 36
abbrev tumblerref01_Root : FuncId := 37
abbrev tumblerref01_Add : FuncId := 38
abbrev wide_Sub : FuncId := 39
abbrev tumblerref01_Sub : FuncId := 40
abbrev wide_Small : FuncId := 41
abbrev tumblerref01_Small : FuncId := 42
abbrev wide_Neg : FuncId := 43
abbrev tumblerref01_Neg : FuncId := 44
abbrev wide_Abs : FuncId := 45
abbrev tumblerref01_Abs : FuncId := 46
abbrev wide_Of : FuncId := 47
abbrev tumblerref01_Of : FuncId := 48
abbrev tumblerref01_Cmp : FuncId := 49
abbrev wide_Sign : FuncId := 50
abbrev tumblerref01_Sign : FuncId := 51
abbrev wide_Parse : FuncId := 52
abbrev tumblerref01_Parse : FuncId := 53
abbrev micro_Show : FuncId := 54
abbrev tumblerref02_Show : FuncId := 55
abbrev micro_Print : FuncId := 56
abbrev tumblerref02_Print : FuncId := 57
abbrev micro_Read : FuncId := 58
abbrev micro_Parse : FuncId := 59
abbrev tumblerref02_Parse : FuncId := 60
abbrev tumblerlaw02_awake : FuncId := 61
abbrev tumblerref02_Read : FuncId := 62
abbrev micro_Fits : FuncId := 63
abbrev wide_amount : FuncId := 64
abbrev wide_divided : FuncId := 65
abbrev strconv_FormatUint : FuncId := 66
abbrev strings_Repeat : FuncId := 67
abbrev tumblerref01_PrintN : FuncId := 68
abbrev tumblerref01_From : FuncId := 69
abbrev math_bits_Mul64 : FuncId := 70
abbrev math_bits_Add64 : FuncId := 71
abbrev wide_signed : FuncId := 72
abbrev tumblerref01_over : FuncId := 73
abbrev tumblerref01_MulN : FuncId := 74
abbrev tumblerref01_QuoN : FuncId := 75
abbrev tumblerref01_To : FuncId := 76
abbrev tumblerref01_AddN : FuncId := 77
abbrev tumblerref01_RootN : FuncId := 78
abbrev math_bits_Sub64 : FuncId := 79
abbrev tumblerref01_NegN : FuncId := 80
abbrev tumblerref01_make2 : FuncId := 81
abbrev tumblerref01_CmpN : FuncId := 82
abbrev strings_CutPrefix : FuncId := 83
abbrev wide_digits : FuncId := 84
abbrev tumblerref01_Digits : FuncId := 85
abbrev tumblerref01_Int : FuncId := 86
abbrev strconv_FormatInt : FuncId := 87
abbrev tumblerref02_Amount : FuncId := 88
abbrev tumblerref02_Text : FuncId := 89
abbrev tumblerref02_Of : FuncId := 90
abbrev micro_read : FuncId := 91
abbrev micro_decimal_worth : FuncId := 92
abbrev tumblerref02_taken : FuncId := 93
abbrev tumblerref02_Small : FuncId := 94
abbrev tumblerref02_Signed : FuncId := 95
abbrev i_strconv_FormatUint : FuncId := 96
abbrev math_bits_Mul : FuncId := 97
abbrev strings_HasPrefix : FuncId := 98
abbrev strings_Builder_Grow : FuncId := 99
abbrev strings_Builder_WriteString : FuncId := 100
abbrev strings_Builder_Len : FuncId := 101
abbrev strings_Builder_String : FuncId := 102
abbrev tumblerref01_trim : FuncId := 103
abbrev tumblerref01_mulL : FuncId := 104
abbrev tumblerref01_divL : FuncId := 105
abbrev tumblerref01_word : FuncId := 106
abbrev tumblerref01_fits : FuncId := 107
abbrev tumblerref01_addL : FuncId := 108
abbrev tumblerref01_cmpL : FuncId := 109
abbrev tumblerref01_subL : FuncId := 110
abbrev i_stringslite_CutPrefix : FuncId := 111
abbrev i_strconv_FormatInt : FuncId := 112
abbrev tumblerref02_Plus : FuncId := 113
abbrev tumblerref02_digits : FuncId := 114
abbrev micro_tens : FuncId := 115
abbrev tumblerref02_Take : FuncId := 116
abbrev tumblerref02_Worth : FuncId := 117
abbrev i_strconv_small : FuncId := 118
abbrev i_strconv_numDigits : FuncId := 119
abbrev i_strconv_formatBase10 : FuncId := 120
abbrev i_strconv_formatBits : FuncId := 121
abbrev math_bits_Mul32 : FuncId := 122
abbrev i_stringslite_HasPrefix : FuncId := 123
abbrev strings_Builder_copyCheck : FuncId := 124
abbrev strings_Builder_grow : FuncId := 125
abbrev tumblerref01_limb : FuncId := 126
abbrev tumblerref02_By : FuncId := 127
abbrev tumblerref02_Times : FuncId := 128
abbrev i_strconv_log10Pow2 : FuncId := 129
abbrev math_bits_Len64 : FuncId := 130
abbrev i_strconv_bool2_int : FuncId := 131
abbrev i_strconv_isPowerOfTwo : FuncId := 132
abbrev math_bits_TrailingZeros : FuncId := 133
abbrev i_abi_NoEscape : FuncId := 134
abbrev i_bytealg_MakeNoZero : FuncId := 135
abbrev math_bits_TrailingZeros32 : FuncId := 136
abbrev math_bits_TrailingZeros64 : FuncId := 137
abbrev runtime_boundsError_Error : FuncId := 138
abbrev runtime_boundsError_RuntimeError : FuncId := 139
abbrev runtime_errorString_Error : FuncId := 140
abbrev runtime_errorString_RuntimeError : FuncId := 141
abbrev runtime_plainError_Error : FuncId := 142
abbrev runtime_plainError_RuntimeError : FuncId := 143
abbrev runtime_errorAddressString_Error : FuncId := 144
abbrev runtime_errorAddressString_RuntimeError : FuncId := 145
abbrev runtime_TypeAssertionError_Error : FuncId := 146
abbrev runtime_TypeAssertionError_RuntimeError : FuncId := 147
abbrev runtime_PanicNilError_Error : FuncId := 148
abbrev runtime_PanicNilError_RuntimeError : FuncId := 149
abbrev i_abi_Type_Align : FuncId := 150
abbrev i_runtime_maps_unhashableTypeError_Error : FuncId := 151
abbrev i_runtime_maps_unhashableTypeError_RuntimeError : FuncId := 152
abbrev api_Errno_Error : FuncId := 153
abbrev strings_Builder_Reset : FuncId := 154
abbrev i_abi_Kind_String : FuncId := 155
abbrev gosem_cut_vars : FuncId := 161
end I
namespace B
abbrev tumblerlaw01_WidePrints := @Tryd.func3
abbrev tumblerlaw01_WideMuls := @Tryd.func4
abbrev tumblerlaw01_WideOrders := @Tryd.func5
abbrev tumblerlaw01_WideQuos := @Tryd.func6
abbrev tumblerlaw01_WideSums := @Tryd.func7
abbrev tumblerlaw01_WideRoots := @Tryd.func8
abbrev tumblerlaw01_WideAdds := @Tryd.func9
abbrev tumblerlaw01_WideLaws := @Tryd.func10
abbrev tumblerlaw01_WideShuffles := @Tryd.func11
abbrev tumblerlaw01_WideSigns := @Tryd.func12
abbrev tumblerlaw01_WideSquares := @Tryd.func13
abbrev tumblerlaw01_WideDivides := @Tryd.func14
abbrev tumblerlaw01_WideParses := @Tryd.func15
abbrev tumblerlaw01_WideBack := @Tryd.func16
abbrev tumblerlaw02_MicroShows := @Tryd.func17
abbrev tumblerlaw02_MicroPrints := @Tryd.func18
abbrev tumblerlaw02_MicroWideBack := @Tryd.func19
abbrev tumblerlaw02_MicroBack := @Tryd.func20
abbrev tumblerlaw02_MicroParses := @Tryd.func21
abbrev tumblerlaw02_MicroReads := @Tryd.func22
abbrev tumblerlaw02_MicroShort := @Tryd.func23
abbrev tumblerlaw02_MicroSame := @Tryd.func24
abbrev wide_Print := @Tryd.func25
abbrev tumblerref01_Print := @Tryd.func26
abbrev wide_Mul := @Tryd.func27
abbrev tumblerref01_Mul := @Tryd.func28
abbrev tumblerlaw01_alive := @Tryd.func29
abbrev wide_Cmp := @Tryd.func30
abbrev wide_Add := @Tryd.func31
abbrev wide_Quo := @Tryd.func32
abbrev tumblerref01_Quo := @Tryd.func33
abbrev wide_Sum := @Tryd.func34
abbrev tumblerref01_Sum := @Tryd.func35
abbrev wide_Root := @Tryd.func36
abbrev tumblerref01_Root := @Tryd.func37
abbrev tumblerref01_Add := @Tryd.func38
abbrev wide_Sub := @Tryd.func39
abbrev tumblerref01_Sub := @Tryd.func40
abbrev wide_Small := @Tryd.func41
abbrev tumblerref01_Small := @Tryd.func42
abbrev wide_Neg := @Tryd.func43
abbrev tumblerref01_Neg := @Tryd.func44
abbrev wide_Abs := @Tryd.func45
abbrev tumblerref01_Abs := @Tryd.func46
abbrev wide_Of := @Tryd.func47
abbrev tumblerref01_Of := @Tryd.func48
abbrev tumblerref01_Cmp := @Tryd.func49
abbrev wide_Sign := @Tryd.func50
abbrev tumblerref01_Sign := @Tryd.func51
abbrev wide_Parse := @Tryd.func52
abbrev tumblerref01_Parse := @Tryd.func53
abbrev micro_Show := @Tryd.func54
abbrev tumblerref02_Show := @Tryd.func55
abbrev micro_Print := @Tryd.func56
abbrev tumblerref02_Print := @Tryd.func57
abbrev micro_Read := @Tryd.func58
abbrev micro_Parse := @Tryd.func59
abbrev tumblerref02_Parse := @Tryd.func60
abbrev tumblerlaw02_awake := @Tryd.func61
abbrev tumblerref02_Read := @Tryd.func62
abbrev micro_Fits := @Tryd.func63
abbrev wide_amount := @Tryd.func64
abbrev wide_divided := @Tryd.func65
abbrev strconv_FormatUint := @Tryd.func66
abbrev strings_Repeat := @Tryd.func67
abbrev tumblerref01_PrintN := @Tryd.func68
abbrev tumblerref01_From := @Tryd.func69
abbrev math_bits_Mul64 := @Tryd.func70
abbrev wide_signed := @Tryd.func72
abbrev tumblerref01_over := @Tryd.func73
abbrev tumblerref01_MulN := @Tryd.func74
abbrev tumblerref01_QuoN := @Tryd.func75
abbrev tumblerref01_To := @Tryd.func76
abbrev tumblerref01_AddN := @Tryd.func77
abbrev tumblerref01_RootN := @Tryd.func78
abbrev tumblerref01_NegN := @Tryd.func80
abbrev tumblerref01_make2 := @Tryd.func81
abbrev tumblerref01_CmpN := @Tryd.func82
abbrev strings_CutPrefix := @Tryd.func83
abbrev wide_digits := @Tryd.func84
abbrev tumblerref01_Digits := @Tryd.func85
abbrev tumblerref01_Int := @Tryd.func86
abbrev strconv_FormatInt := @Tryd.func87
abbrev tumblerref02_Amount := @Tryd.func88
abbrev tumblerref02_Text := @Tryd.func89
abbrev tumblerref02_Of := @Tryd.func90
abbrev micro_read := @Tryd.func91
abbrev micro_decimal_worth := @Tryd.func92
abbrev tumblerref02_taken := @Tryd.func93
abbrev tumblerref02_Small := @Tryd.func94
abbrev tumblerref02_Signed := @Tryd.func95
abbrev i_strconv_FormatUint := @Tryd.func96
abbrev math_bits_Mul := @Tryd.func97
abbrev strings_HasPrefix := @Tryd.func98
abbrev strings_Builder_Grow := @Tryd.func99
abbrev strings_Builder_WriteString := @Tryd.func100
abbrev strings_Builder_Len := @Tryd.func101
abbrev strings_Builder_String := @Tryd.func102
abbrev tumblerref01_trim := @Tryd.func103
abbrev tumblerref01_mulL := @Tryd.func104
abbrev tumblerref01_divL := @Tryd.func105
abbrev tumblerref01_word := @Tryd.func106
abbrev tumblerref01_fits := @Tryd.func107
abbrev tumblerref01_addL := @Tryd.func108
abbrev tumblerref01_cmpL := @Tryd.func109
abbrev tumblerref01_subL := @Tryd.func110
abbrev i_stringslite_CutPrefix := @Tryd.func111
abbrev i_strconv_FormatInt := @Tryd.func112
abbrev tumblerref02_Plus := @Tryd.func113
abbrev tumblerref02_digits := @Tryd.func114
abbrev micro_tens := @Tryd.func115
abbrev tumblerref02_Take := @Tryd.func116
abbrev tumblerref02_Worth := @Tryd.func117
abbrev i_strconv_small := @Tryd.func118
abbrev i_strconv_numDigits := @Tryd.func119
abbrev i_strconv_formatBase10 := @Tryd.func120
abbrev i_strconv_formatBits := @Tryd.func121
abbrev math_bits_Mul32 := @Tryd.func122
abbrev i_stringslite_HasPrefix := @Tryd.func123
abbrev strings_Builder_copyCheck := @Tryd.func124
abbrev strings_Builder_grow := @Tryd.func125
abbrev tumblerref01_limb := @Tryd.func126
abbrev tumblerref02_By := @Tryd.func127
abbrev tumblerref02_Times := @Tryd.func128
abbrev i_strconv_log10Pow2 := @Tryd.func129
abbrev math_bits_Len64 := @Tryd.func130
abbrev i_strconv_bool2_int := @Tryd.func131
abbrev i_strconv_isPowerOfTwo := @Tryd.func132
abbrev math_bits_TrailingZeros := @Tryd.func133
abbrev math_bits_TrailingZeros32 := @Tryd.func136
abbrev math_bits_TrailingZeros64 := @Tryd.func137
end B
namespace NB
abbrev math_bits_Add64 := @Tryd.func71
abbrev math_bits_Sub64 := @Tryd.func79
abbrev i_abi_NoEscape := @Tryd.func134
abbrev i_bytealg_MakeNoZero := @Tryd.func135
abbrev runtime_boundsError_Error := @Tryd.func138
abbrev runtime_boundsError_RuntimeError := @Tryd.func139
abbrev runtime_errorString_Error := @Tryd.func140
abbrev runtime_errorString_RuntimeError := @Tryd.func141
abbrev runtime_plainError_Error := @Tryd.func142
abbrev runtime_plainError_RuntimeError := @Tryd.func143
abbrev runtime_errorAddressString_Error := @Tryd.func144
abbrev runtime_errorAddressString_RuntimeError := @Tryd.func145
abbrev runtime_TypeAssertionError_Error := @Tryd.func146
abbrev runtime_TypeAssertionError_RuntimeError := @Tryd.func147
abbrev runtime_PanicNilError_Error := @Tryd.func148
abbrev runtime_PanicNilError_RuntimeError := @Tryd.func149
abbrev i_abi_Type_Align := @Tryd.func150
abbrev i_runtime_maps_unhashableTypeError_Error := @Tryd.func151
abbrev i_runtime_maps_unhashableTypeError_RuntimeError := @Tryd.func152
abbrev api_Errno_Error := @Tryd.func153
abbrev strings_Builder_Reset := @Tryd.func154
abbrev i_abi_Kind_String := @Tryd.func155
abbrev var_s_door_gosem_cut_vars_holds_initialisers_alone_see_the_manifest_s_row_cutvarsword_look_11_test_files_too := @Tryd.func156
abbrev var_s_door_i_strconv_uint64pow10_is_laid_by_its_own_initialiser_plain_data_look_11 := @Tryd.func157
abbrev var_s_door_math_bits_deBruijn32tab_is_laid_by_its_own_initialiser_plain_data_look_11 := @Tryd.func158
abbrev var_s_door_math_bits_deBruijn64tab_is_laid_by_its_own_initialiser_plain_data_look_11 := @Tryd.func159
abbrev var_s_door_the_look_of_gosem_cut_vars_went_over_the_folder_that_the_caller_named_as_the_repository_s_root_look_11 := @Tryd.func160
end NB
namespace Y
abbrev abi_BoundsErrorCode : TypeId := 6
abbrev runtime_boundsError : TypeId := 8
abbrev runtime_errorString : TypeId := 10
abbrev runtime_plainError : TypeId := 11
abbrev runtime_errorAddressString : TypeId := 14
abbrev maps_unhashableTypeError : TypeId := 19
abbrev api_Wide : TypeId := 24
abbrev api_Errno : TypeId := 27
abbrev wide_limbs : TypeId := 62
abbrev tumblerref01_Num : TypeId := 71
abbrev tumblerref02_Mag : TypeId := 93
abbrev micro_decimal : TypeId := 99
abbrev strings_Builder : TypeId := 113
abbrev error : TypeId := 116
abbrev tumblerref02_Decimal : TypeId := 133
abbrev runtime_TypeAssertionError : TypeId := 164
abbrev runtime_PanicNilError : TypeId := 167
abbrev abi_TFlag : TypeId := 168
abbrev abi_Kind : TypeId := 169
abbrev abi_NameOff : TypeId := 171
abbrev abi_TypeOff : TypeId := 172
abbrev abi_Type : TypeId := 174
abbrev sl_api_Wide : TypeId := 40
abbrev arr_2_uint64 : TypeId := 61
abbrev sl_uint32 : TypeId := 69
abbrev arr_3_uint64 : TypeId := 83
abbrev sl_uint8 : TypeId := 111
abbrev arr_24_uint8 : TypeId := 138
abbrev arr_7_int64 : TypeId := 149
abbrev arr_20_uint64 : TypeId := 153
abbrev arr_65_uint8 : TypeId := 154
abbrev arr_32_uint8 : TypeId := 161
abbrev arr_64_uint8 : TypeId := 162
abbrev arr_0_runtime_PanicNilError : TypeId := 165
abbrev int64 : TypeId := 2
abbrev int : TypeId := 3
abbrev bool : TypeId := 4
abbrev uint8 : TypeId := 5
abbrev string : TypeId := 9
abbrev uintptr : TypeId := 12
abbrev int32 : TypeId := 21
abbrev uint64 : TypeId := 22
abbrev uint : TypeId := 84
abbrev uint32 : TypeId := 121
end Y
def tys : Tys := [
(1, ⟨1, 8, false, [.nilFunc], .func, []⟩),
(2, ⟨1, 8, false, [.int .i64 0], (.int .i64), []⟩),
(3, ⟨1, 8, false, [.int .i64 0], (.int .i64), []⟩),
(4, ⟨1, 1, false, [.bool false], .bool, []⟩),
(5, ⟨1, 1, false, [.int .u8 0], (.int .u8), []⟩),
(6, ⟨1, 1, false, [.int .u8 0], (.int .u8), []⟩),
(7, ⟨4, 24, true, [.int .i64 0, .int .i64 0, .bool false, .int .u8 0], (.struct [(0, 1, false), (1, 1, false), (2, 1, false), (3, 1, false)]), [.i, .i, .b, .i]⟩),
(8, ⟨4, 24, true, [.int .i64 0, .int .i64 0, .bool false, .int .u8 0], (.struct [(0, 1, false), (1, 1, false), (2, 1, false), (3, 1, false)]), [.i, .i, .b, .i]⟩),
(9, ⟨1, 16, false, [.string ⟨#[]⟩], .string, []⟩),
(10, ⟨1, 16, false, [.string ⟨#[]⟩], .string, []⟩),
(11, ⟨1, 16, false, [.string ⟨#[]⟩], .string, []⟩),
(12, ⟨1, 8, false, [.int .u64 0], (.int .u64), []⟩),
(13, ⟨2, 24, true, [.string ⟨#[]⟩, .int .u64 0], (.struct [(0, 1, false), (1, 1, false)]), []⟩),
(14, ⟨2, 24, true, [.string ⟨#[]⟩, .int .u64 0], (.struct [(0, 1, false), (1, 1, false)]), []⟩),
(15, ⟨1, 8, false, [.pointer none], (.ptr 4), []⟩),
(16, ⟨1, 8, false, [.pointer none], (.ptr 0), []⟩),
(17, ⟨1, 8, false, [.pointer none], (.ptr 11), []⟩),
(18, ⟨1, 8, true, [.pointer none], (.struct [(0, 1, false)]), []⟩),
(19, ⟨1, 8, true, [.pointer none], (.struct [(0, 1, false)]), []⟩),
(20, ⟨1, 16, false, [.nilIface], .iface, []⟩),
(21, ⟨1, 4, false, [.int .i32 0], (.int .i32), []⟩),
(22, ⟨1, 8, false, [.int .u64 0], (.int .u64), []⟩),
(23, ⟨2, 16, true, [.int .i64 0, .int .u64 0], (.struct [(0, 1, false), (1, 1, false)]), [.i, .i]⟩),
(24, ⟨2, 16, true, [.int .i64 0, .int .u64 0], (.struct [(0, 1, false), (1, 1, false)]), [.i, .i]⟩),
(25, ⟨1, 8, false, [.nilFunc], .func, []⟩),
(26, ⟨1, 8, false, [.nilFunc], .func, []⟩),
(27, ⟨1, 8, false, [.int .i64 0], (.int .i64), []⟩),
(29, ⟨1, 8, false, [.nilFunc], .func, []⟩),
(31, ⟨1, 8, false, [.nilFunc], .func, []⟩),
(32, ⟨1, 8, false, [.nilFunc], .func, []⟩),
(33, ⟨1, 8, false, [.nilFunc], .func, []⟩),
(34, ⟨1, 8, false, [.nilFunc], .func, []⟩),
(35, ⟨1, 8, false, [.nilFunc], .func, []⟩),
(37, ⟨1, 8, false, [.nilFunc], .func, []⟩),
(39, ⟨1, 8, false, [.nilFunc], .func, []⟩),
(40, ⟨1, 24, false, [.slice none 0 0], (.slice 2 16 true [.int .i64 0, .int .u64 0] 24), []⟩),
(41, ⟨1, 8, false, [.nilFunc], .func, []⟩),
(42, ⟨1, 8, false, [.nilFunc], .func, []⟩),
(43, ⟨1, 8, false, [.nilFunc], .func, []⟩),
(44, ⟨1, 8, false, [.nilFunc], .func, []⟩),
(45, ⟨1, 8, false, [.nilFunc], .func, []⟩),
(46, ⟨1, 8, false, [.nilFunc], .func, []⟩),
(48, ⟨1, 8, false, [.nilFunc], .func, []⟩),
(49, ⟨1, 8, false, [.nilFunc], .func, []⟩),
(50, ⟨1, 8, false, [.nilFunc], .func, []⟩),
(51, ⟨1, 8, false, [.nilFunc], .func, []⟩),
(52, ⟨1, 8, false, [.nilFunc], .func, []⟩),
(53, ⟨1, 8, false, [.nilFunc], .func, []⟩),
(54, ⟨1, 8, false, [.nilFunc], .func, []⟩),
(55, ⟨1, 8, false, [.nilFunc], .func, []⟩),
(56, ⟨1, 8, false, [.nilFunc], .func, []⟩),
(58, ⟨1, 8, false, [.nilFunc], .func, []⟩),
(60, ⟨1, 8, false, [.nilFunc], .func, []⟩),
(61, ⟨2, 16, true, [.int .u64 0, .int .u64 0], (.arr 2 1 false), [.i, .i]⟩),
(62, ⟨2, 16, true, [.int .u64 0, .int .u64 0], (.arr 2 1 false), [.i, .i]⟩),
(63, ⟨1, 8, false, [.nilFunc], .func, []⟩),
(65, ⟨1, 8, false, [.nilFunc], .func, []⟩),
(66, ⟨1, 8, false, [.nilFunc], .func, []⟩),
(67, ⟨1, 8, false, [.nilFunc], .func, []⟩),
(68, ⟨1, 8, false, [.nilFunc], .func, []⟩),
(69, ⟨1, 24, false, [.slice none 0 0], (.slice 1 4 false [.int .u32 0] 121), []⟩),
(70, ⟨2, 32, true, [.bool false, .slice none 0 0], (.struct [(0, 1, false), (1, 1, false)]), []⟩),
(71, ⟨2, 32, true, [.bool false, .slice none 0 0], (.struct [(0, 1, false), (1, 1, false)]), []⟩),
(72, ⟨1, 8, false, [.nilFunc], .func, []⟩),
(74, ⟨1, 8, false, [.nilFunc], .func, []⟩),
(75, ⟨1, 8, false, [.nilFunc], .func, []⟩),
(76, ⟨1, 8, false, [.nilFunc], .func, []⟩),
(77, ⟨1, 8, false, [.nilFunc], .func, []⟩),
(78, ⟨1, 8, false, [.nilFunc], .func, []⟩),
(80, ⟨1, 8, false, [.nilFunc], .func, []⟩),
(82, ⟨1, 8, false, [.nilFunc], .func, []⟩),
(83, ⟨3, 24, true, [.int .u64 0, .int .u64 0, .int .u64 0], (.arr 3 1 false), [.i, .i, .i]⟩),
(84, ⟨1, 8, false, [.int .u64 0], (.int .u64), []⟩),
(85, ⟨1, 8, false, [.nilFunc], .func, []⟩),
(86, ⟨1, 8, false, [.nilFunc], .func, []⟩),
(87, ⟨1, 8, false, [.nilFunc], .func, []⟩),
(89, ⟨1, 8, false, [.nilFunc], .func, []⟩),
(90, ⟨1, 8, false, [.nilFunc], .func, []⟩),
(91, ⟨1, 8, false, [.nilFunc], .func, []⟩),
(92, ⟨3, 24, true, [.int .u64 0, .int .u64 0, .bool false], (.struct [(0, 1, false), (1, 1, false), (2, 1, false)]), [.i, .i, .b]⟩),
(93, ⟨3, 24, true, [.int .u64 0, .int .u64 0, .bool false], (.struct [(0, 1, false), (1, 1, false), (2, 1, false)]), [.i, .i, .b]⟩),
(95, ⟨1, 8, false, [.nilFunc], .func, []⟩),
(96, ⟨1, 8, false, [.nilFunc], .func, []⟩),
(97, ⟨1, 8, false, [.nilFunc], .func, []⟩),
(98, ⟨3, 32, true, [.bool false, .string ⟨#[]⟩, .int .i64 0], (.struct [(0, 1, false), (1, 1, false), (2, 1, false)]), [.b, .s, .i]⟩),
(99, ⟨3, 32, true, [.bool false, .string ⟨#[]⟩, .int .i64 0], (.struct [(0, 1, false), (1, 1, false), (2, 1, false)]), [.b, .s, .i]⟩),
(101, ⟨1, 8, false, [.nilFunc], .func, []⟩),
(102, ⟨1, 8, false, [.nilFunc], .func, []⟩),
(104, ⟨1, 8, false, [.nilFunc], .func, []⟩),
(105, ⟨1, 8, false, [.nilFunc], .func, []⟩),
(106, ⟨1, 8, false, [.nilFunc], .func, []⟩),
(108, ⟨1, 8, false, [.nilFunc], .func, []⟩),
(109, ⟨1, 8, false, [.nilFunc], .func, []⟩),
(110, ⟨1, 8, false, [.pointer none], (.ptr 2), []⟩),
(111, ⟨1, 24, false, [.slice none 0 0], (.slice 1 1 false [.int .u8 0] 5), []⟩),
(112, ⟨2, 32, true, [.pointer none, .slice none 0 0], (.struct [(0, 1, false), (1, 1, false)]), []⟩),
(113, ⟨2, 32, true, [.pointer none, .slice none 0 0], (.struct [(0, 1, false), (1, 1, false)]), []⟩),
(114, ⟨1, 8, false, [.nilFunc], .func, []⟩),
(115, ⟨1, 16, false, [.nilIface], .iface, []⟩),
(116, ⟨1, 16, false, [.nilIface], .iface, []⟩),
(118, ⟨1, 8, false, [.nilFunc], .func, []⟩),
(119, ⟨1, 8, false, [.nilFunc], .func, []⟩),
(120, ⟨1, 8, false, [.nilFunc], .func, []⟩),
(121, ⟨1, 4, false, [.int .u32 0], (.int .u32), []⟩),
(122, ⟨1, 8, false, [.nilFunc], .func, []⟩),
(123, ⟨1, 8, false, [.nilFunc], .func, []⟩),
(125, ⟨1, 8, false, [.nilFunc], .func, []⟩),
(126, ⟨1, 8, false, [.nilFunc], .func, []⟩),
(127, ⟨1, 8, false, [.nilFunc], .func, []⟩),
(128, ⟨1, 8, false, [.nilFunc], .func, []⟩),
(129, ⟨1, 8, false, [.nilFunc], .func, []⟩),
(130, ⟨1, 8, false, [.nilFunc], .func, []⟩),
(131, ⟨1, 8, false, [.nilFunc], .func, []⟩),
(132, ⟨3, 40, true, [.bool false, .string ⟨#[]⟩, .string ⟨#[]⟩], (.struct [(0, 1, false), (1, 1, false), (2, 1, false)]), [.b, .s, .s]⟩),
(133, ⟨3, 40, true, [.bool false, .string ⟨#[]⟩, .string ⟨#[]⟩], (.struct [(0, 1, false), (1, 1, false), (2, 1, false)]), [.b, .s, .s]⟩),
(135, ⟨1, 8, false, [.nilFunc], .func, []⟩),
(136, ⟨1, 8, false, [.nilFunc], .func, []⟩),
(137, ⟨1, 8, false, [.nilFunc], .func, []⟩),
(138, ⟨24, 24, true, [.int .u8 0, .int .u8 0, .int .u8 0, .int .u8 0, .int .u8 0, .int .u8 0, .int .u8 0, .int .u8 0, .int .u8 0, .int .u8 0, .int .u8 0, .int .u8 0, .int .u8 0, .int .u8 0, .int .u8 0, .int .u8 0, .int .u8 0, .int .u8 0, .int .u8 0, .int .u8 0, .int .u8 0, .int .u8 0, .int .u8 0, .int .u8 0], (.arr 24 1 false), []⟩),
(139, ⟨1, 8, false, [.nilFunc], .func, []⟩),
(140, ⟨1, 8, false, [.nilFunc], .func, []⟩),
(142, ⟨1, 8, false, [.nilFunc], .func, []⟩),
(144, ⟨1, 8, false, [.nilFunc], .func, []⟩),
(145, ⟨1, 8, false, [.pointer none], (.ptr 1), []⟩),
(146, ⟨1, 8, false, [.nilFunc], .func, []⟩),
(148, ⟨1, 8, false, [.nilFunc], .func, []⟩),
(149, ⟨7, 56, true, [.int .i64 0, .int .i64 0, .int .i64 0, .int .i64 0, .int .i64 0, .int .i64 0, .int .i64 0], (.arr 7 1 false), [.i, .i, .i, .i, .i, .i, .i]⟩),
(150, ⟨1, 8, false, [.nilFunc], .func, []⟩),
(151, ⟨1, 8, false, [.nilFunc], .func, []⟩),
(152, ⟨1, 8, false, [.nilFunc], .func, []⟩),
(153, ⟨20, 160, true, [.int .u64 0, .int .u64 0, .int .u64 0, .int .u64 0, .int .u64 0, .int .u64 0, .int .u64 0, .int .u64 0, .int .u64 0, .int .u64 0, .int .u64 0, .int .u64 0, .int .u64 0, .int .u64 0, .int .u64 0, .int .u64 0, .int .u64 0, .int .u64 0, .int .u64 0, .int .u64 0], (.arr 20 1 false), [.i, .i, .i, .i, .i, .i, .i, .i, .i, .i, .i, .i, .i, .i, .i, .i, .i, .i, .i, .i]⟩),
(154, ⟨65, 65, true, [.int .u8 0, .int .u8 0, .int .u8 0, .int .u8 0, .int .u8 0, .int .u8 0, .int .u8 0, .int .u8 0, .int .u8 0, .int .u8 0, .int .u8 0, .int .u8 0, .int .u8 0, .int .u8 0, .int .u8 0, .int .u8 0, .int .u8 0, .int .u8 0, .int .u8 0, .int .u8 0, .int .u8 0, .int .u8 0, .int .u8 0, .int .u8 0, .int .u8 0, .int .u8 0, .int .u8 0, .int .u8 0, .int .u8 0, .int .u8 0, .int .u8 0, .int .u8 0, .int .u8 0, .int .u8 0, .int .u8 0, .int .u8 0, .int .u8 0, .int .u8 0, .int .u8 0, .int .u8 0, .int .u8 0, .int .u8 0, .int .u8 0, .int .u8 0, .int .u8 0, .int .u8 0, .int .u8 0, .int .u8 0, .int .u8 0, .int .u8 0, .int .u8 0, .int .u8 0, .int .u8 0, .int .u8 0, .int .u8 0, .int .u8 0, .int .u8 0, .int .u8 0, .int .u8 0, .int .u8 0, .int .u8 0, .int .u8 0, .int .u8 0, .int .u8 0, .int .u8 0], (.arr 65 1 false), []⟩),
(155, ⟨1, 8, false, [.nilFunc], .func, []⟩),
(156, ⟨1, 8, false, [.nilFunc], .func, []⟩),
(157, ⟨1, 8, false, [.pointer none], .other, []⟩),
(158, ⟨1, 8, false, [.nilFunc], .func, []⟩),
(159, ⟨1, 8, false, [.nilFunc], .func, []⟩),
(160, ⟨1, 8, false, [.nilFunc], .func, []⟩),
(161, ⟨32, 32, true, [.int .u8 0, .int .u8 0, .int .u8 0, .int .u8 0, .int .u8 0, .int .u8 0, .int .u8 0, .int .u8 0, .int .u8 0, .int .u8 0, .int .u8 0, .int .u8 0, .int .u8 0, .int .u8 0, .int .u8 0, .int .u8 0, .int .u8 0, .int .u8 0, .int .u8 0, .int .u8 0, .int .u8 0, .int .u8 0, .int .u8 0, .int .u8 0, .int .u8 0, .int .u8 0, .int .u8 0, .int .u8 0, .int .u8 0, .int .u8 0, .int .u8 0, .int .u8 0], (.arr 32 1 false), []⟩),
(162, ⟨64, 64, true, [.int .u8 0, .int .u8 0, .int .u8 0, .int .u8 0, .int .u8 0, .int .u8 0, .int .u8 0, .int .u8 0, .int .u8 0, .int .u8 0, .int .u8 0, .int .u8 0, .int .u8 0, .int .u8 0, .int .u8 0, .int .u8 0, .int .u8 0, .int .u8 0, .int .u8 0, .int .u8 0, .int .u8 0, .int .u8 0, .int .u8 0, .int .u8 0, .int .u8 0, .int .u8 0, .int .u8 0, .int .u8 0, .int .u8 0, .int .u8 0, .int .u8 0, .int .u8 0, .int .u8 0, .int .u8 0, .int .u8 0, .int .u8 0, .int .u8 0, .int .u8 0, .int .u8 0, .int .u8 0, .int .u8 0, .int .u8 0, .int .u8 0, .int .u8 0, .int .u8 0, .int .u8 0, .int .u8 0, .int .u8 0, .int .u8 0, .int .u8 0, .int .u8 0, .int .u8 0, .int .u8 0, .int .u8 0, .int .u8 0, .int .u8 0, .int .u8 0, .int .u8 0, .int .u8 0, .int .u8 0, .int .u8 0, .int .u8 0, .int .u8 0, .int .u8 0], (.arr 64 1 false), []⟩),
(163, ⟨4, 40, true, [.pointer none, .pointer none, .pointer none, .string ⟨#[]⟩], (.struct [(0, 1, false), (1, 1, false), (2, 1, false), (3, 1, false)]), []⟩),
(164, ⟨4, 40, true, [.pointer none, .pointer none, .pointer none, .string ⟨#[]⟩], (.struct [(0, 1, false), (1, 1, false), (2, 1, false), (3, 1, false)]), []⟩),
(165, ⟨0, 0, true, [], (.arr 0 1 false), []⟩),
(166, ⟨0, 0, true, [], (.struct [(0, 0, true)]), []⟩),
(167, ⟨0, 0, true, [], (.struct [(0, 0, true)]), []⟩),
(168, ⟨1, 1, false, [.int .u8 0], (.int .u8), []⟩),
(169, ⟨1, 1, false, [.int .u8 0], (.int .u8), []⟩),
(170, ⟨1, 8, false, [.nilFunc], .func, []⟩),
(171, ⟨1, 4, false, [.int .i32 0], (.int .i32), []⟩),
(172, ⟨1, 4, false, [.int .i32 0], (.int .i32), []⟩),
(173, ⟨11, 48, true, [.int .u64 0, .int .u64 0, .int .u32 0, .int .u8 0, .int .u8 0, .int .u8 0, .int .u8 0, .nilFunc, .pointer none, .int .i32 0, .int .i32 0], (.struct [(0, 1, false), (1, 1, false), (2, 1, false), (3, 1, false), (4, 1, false), (5, 1, false), (6, 1, false), (7, 1, false), (8, 1, false), (9, 1, false), (10, 1, false)]), []⟩),
(174, ⟨11, 48, true, [.int .u64 0, .int .u64 0, .int .u32 0, .int .u8 0, .int .u8 0, .int .u8 0, .int .u8 0, .nilFunc, .pointer none, .int .i32 0, .int .i32 0], (.struct [(0, 1, false), (1, 1, false), (2, 1, false), (3, 1, false), (4, 1, false), (5, 1, false), (6, 1, false), (7, 1, false), (8, 1, false), (9, 1, false), (10, 1, false)]), []⟩)]
theorem tys_ok : TysOk Tryd.prog tys ∧ TysPl Tryd.prog tys := tysChk_ok (by kernel_rfl)
end Go.Proofs.YtcfhmbhlibhlnaaDoor
