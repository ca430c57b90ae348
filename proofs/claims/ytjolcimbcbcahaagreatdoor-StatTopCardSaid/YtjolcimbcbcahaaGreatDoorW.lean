/- The law's functions are walked: what each answers; no condition. -/
import Derived.Test.YtjolcimbcbcahaaGreatDoorC1
import Derived.Test.YtjolcimbcbcahaaGreatDoorE6
import Derived.KernelRfl
import Derived.Test.YtjolcimbcbcahaaGreatDoorE4
set_option linter.unusedSectionVars false
set_option linter.unusedVariables false
set_option linter.unusedSimpArgs false
set_option linter.unnecessarySimpa false
namespace Go.Eng.St
abbrev f_l34_StatTop : Nat := 11
abbrev f_stat_Of : Nat := 50
abbrev f_stat_Stat_Top : Nat := 67
abbrev f_stat_Stat_Get : Nat := 51
abbrev f_stat_Stat_Names : Nat := 62
abbrev f_stat_Stat_Join : Nat := 57
abbrev f_stat_Stat_Rate : Nat := 53
abbrev f_stat_Stat_Less : Nat := 58
abbrev f_l34_is : Nat := 56
abbrev f_slices_Index_string_string : Nat := 132
abbrev f_word_Add : Nat := 82
abbrev f_word_Sub : Nat := 135
abbrev f_r34_Names : Nat := 63
abbrev f_l34_awake : Nat := 49
abbrev f_stat_names : Nat := 133
abbrev f_math_Float64frombits : Nat := 136
abbrev f_math_Float64bits : Nat := 137
end Go.Eng.St
namespace Go.Eng.St
open Go Go.Eng
def d_l34_StatTop_1 : Ac := .seq (.ops [mv 20 1, i1 21 (.len true (.t 20)), i1 22 (.bin .gtr (.t 21) (k6 100))]) (.cond (.t 22) (.seq (.ops [i1 4 (.move (.c (.bool true)))]) (.ret)) (.skip))
def d_l34_StatTop_2 : Ac := .seq (.ops [mv 49 12, mv 50 8, i1 51 (.bin .gtr (.t 49) (.t 50)), mv 52 51, ig 53 (.move (.t 12)) 52 false, ig 54 (.bin .geq (.t 53) (.c (.int .u64 4611686018427387904))) 52 false, i1 55 (.pick (.t 52) (.c (.bool true)) (.t 54))]) (.cond (.t 55) (.seq (.ops [mv 56 12, mv 57 8, i1 58 (.bin .leq (.t 56) (.t 57)), mv 4 58]) (.ret)) (.skip))
def d_l34_StatTop_3 : Ac := .seq (.ops [i1 44 (.load true 14 (.t 5)), mv 45 11, i1 46 (cf f_stat_Stat_Get [(.t 44), (.t 45)]), mv 43 46, i1 47 (.extract (.t 43) 0), i1 48 (.extract (.t 43) 1), mv 12 47, mv 13 48]) (d_l34_StatTop_2)
def d_l34_StatTop_4 : Ac := .seq (.block 1 (.seq (.ops [i1 41 (.iaddr 1 (.t 37) (.t 39)), i1 42 (.load false 1 (.t 41)), mv 11 42]) (d_l34_StatTop_3))) (.ops [i1 59 (.bin .add (.t 39) (k6 1)), mv 39 59])
def d_l34_StatTop_5 : Ac := .seq (.ops [i1 36 (.load true 14 (.t 5)), i1 37 (cf f_stat_Stat_Names [(.t 36)]), i1 38 (.len false (.t 37)), i1 39 (.move (k6 0))]) (.block 0 (.loop (.seq (.ops [i1 40 (.bin .lss (.t 39) (.t 38))]) (.seq (.cond (.t 40) (.skip) (.exit 0)) (d_l34_StatTop_4)))))
def d_l34_StatTop_6 : Ac := .seq (.drawS [[mv 73 7, mu 74 15 [0]], [i1 75 (.eqB false (.t 73) (.t 74))], [mv 76 75], [ig 77 (.move (.t 6)) 76 true, ⟨(some 78), (.move (.t 14)), some (76, true), [4]⟩], [ig 79 (.bin .eql (.t 77) (.t 78)) 76 true], [i1 80 (.pick (.t 76) (.t 79) (.c (.bool false)))], [mv 81 80], [ig 82 (.move (.t 7)) 81 true, ⟨(some 83), (.move (.t 8)), some (81, true), [9]⟩, ⟨(some 84), (.bin .gtr (.t 83) (.c (.int .u64 0))), some (81, true), [9]⟩], [ig 85 (.eqB false (.t 82) (.t 84)) 81 true], [i1 86 (.pick (.t 81) (.t 85) (.c (.bool false)))], [mv 87 86], [ig 88 (.move (.t 17)) 87 true], [ig 89 (.move (.t 88)) 87 true], [ig 90 (.load true 14 (.t 5)) 89 false, ⟨(some 91), (.move (.t 1)), some (89, false), [17]⟩], [ig 92 (cf f_stat_Stat_Rate [(.t 90), (.t 91), (.c (.int .u64 1))]) 89 false], [ig 93 (.bin .eql (.t 92) (.c (.flt .f64 0))) 89 false], [ig 94 (.pick (.t 89) (.c (.bool true)) (.t 93)) 87 true], [i1 95 (.pick (.t 87) (.t 94) (.c (.bool false)))], [mv 96 95], [ig 97 (.load true 14 (.t 5)) 96 true, ⟨(some 98), (.load true 14 (.t 5)), some (96, true), [24]⟩, ig 99 (cf f_stat_Stat_Less [(.t 97), (.t 98)]) 96 true, ⟨(some 100), (.makeSlice [(.int .u64 0)] 1 8 (k6 14) (k6 14)), some (96, true), [24, 25, 26]⟩], [ig 101 (cf f_l34_is [(.t 99), (.t 100)]) 96 true], [i1 102 (.pick (.t 96) (.t 101) (.c (.bool false)))], [mv 4 102]]) (.ret)
def d_l34_StatTop_7 : Ac := .seq (.ops [i1 68 (.load true 14 (.t 5)), mv 69 1, i1 70 (cf f_stat_Stat_Get [(.t 68), (.t 69)]), mv 67 70, i1 71 (.extract (.t 67) 0), i1 72 (.extract (.t 67) 1), mv 16 71, mv 17 72]) (d_l34_StatTop_6)
def d_l34_StatTop_8 : Ac := .seq (.ops [i1 61 (.load true 14 (.t 5)), i1 62 (.load true 14 (.t 5)), i1 63 (cf f_stat_Stat_Join [(.t 61), (.t 62)]), i1 64 (cf f_stat_Stat_Top [(.t 63)]), mv 60 64, i1 65 (.extract (.t 60) 0), i1 66 (.extract (.t 60) 1), mv 14 65, mv 15 66]) (d_l34_StatTop_7)
def d_l34_StatTop_9 : Ac := .seq (.ops [i1 31 (.load true 14 (.t 5)), mv 32 6, i1 33 (cf f_stat_Stat_Get [(.t 31), (.t 32)]), mv 30 33, i1 34 (.extract (.t 30) 0), i1 35 (.extract (.t 30) 1), mv 8 34, mv 9 35]) (.seq (d_l34_StatTop_5) (d_l34_StatTop_8))
def d_l34_StatTop_10 : Ac := .seq (.ops [i1 26 (.load true 14 (.t 5)), i1 27 (cf f_stat_Stat_Top [(.t 26)]), mv 25 27, i1 28 (.extract (.t 25) 0), i1 29 (.extract (.t 25) 1), mv 6 28, mv 7 29]) (d_l34_StatTop_9)
def d_l34_StatTop_11 : Ac := .seq (d_l34_StatTop_1) (.seq (.ops [i1 23 (.load true 14 (.t 2)), i1 24 (cf f_stat_Of [(.t 23)]), i1 5 (.alloc (zs .u64 14)), i0 (.store 14 (.t 5) (.t 24))]) (d_l34_StatTop_10))
def d_l34_StatTop_12 : Ac := .seq (.seq (.ops [i1 18 (cf f_l34_awake []), i1 19 (.un .not (.t 18))]) (.cond (.t 19) (.seq (.ops [i1 4 (.move (.c (.bool false)))]) (.ret)) (.skip))) (d_l34_StatTop_11)
def c_l34_StatTop : AFunc := ⟨2, 103, [.tmp 4],
 .seq (.ops [i1 2 (.box 14 (.t 0)), i1 4 (.move (.c (.bool false)))]) (d_l34_StatTop_12)⟩
def d_stat_Of_1 : Ac := .seq (.ops [i1 3 (.faddr 0 (.t 1)), i1 4 (.load false 1 (.t 3)), i1 5 (.faddr 1 (.t 1)), i1 6 (.load false 1 (.t 5)), i1 7 (.faddr 2 (.t 1)), i1 8 (.load false 1 (.t 7)), i1 9 (.faddr 3 (.t 1)), i1 10 (.load false 1 (.t 9)), i1 11 (.faddr 4 (.t 1)), i1 12 (.load false 1 (.t 11)), i1 13 (.faddr 5 (.t 1)), i1 14 (.load false 1 (.t 13)), i1 15 (.faddr 6 (.t 1)), i1 16 (.load false 1 (.t 15)), i1 17 (.faddr 7 (.t 1)), i1 18 (.load false 1 (.t 17)), i1 19 (.faddr 8 (.t 1)), i1 20 (.load false 1 (.t 19)), i1 21 (.faddr 9 (.t 1)), i1 22 (.load false 1 (.t 21)), i1 23 (.faddr 10 (.t 1)), i1 24 (.load false 1 (.t 23)), i1 25 (.faddr 11 (.t 1)), i1 26 (.load false 1 (.t 25)), i1 27 (.faddr 12 (.t 1)), i1 28 (.load false 1 (.t 27)), i1 29 (.faddr 13 (.t 1)), i1 30 (.load false 1 (.t 29)), i1 31 (.build (zs .u64 14) [((0, 1), (.t 4)), ((1, 1), (.t 6)), ((2, 1), (.t 8)), ((3, 1), (.t 10)), ((4, 1), (.t 12)), ((5, 1), (.t 14)), ((6, 1), (.t 16)), ((7, 1), (.t 18)), ((8, 1), (.t 20)), ((9, 1), (.t 22)), ((10, 1), (.t 24)), ((11, 1), (.t 26)), ((12, 1), (.t 28)), ((13, 1), (.t 30))]), i1 32 (.build (zs .u64 14) [((0, 14), (.t 31))]), i0 (.store 14 (.t 2) (.t 32))]) (.ret)
def c_stat_Of : AFunc := ⟨1, 33, [.cell 2 true 14],
 .seq (.ops [i1 1 (.box 14 (.t 0)), i1 2 (.alloc (zs .u64 14))]) (d_stat_Of_1)⟩
def d_stat_Stat_Top_1 : Ac := .seq (.ops [mv 13 6, mv 14 4, i1 15 (.faddr 0 (.t 1)), i1 16 (.iaddrArr 14 1 (.t 15) (.t 14)), i1 17 (.load false 1 (.t 16)), i1 18 (.bin .leq (.t 13) (.t 17))]) (.cond (.t 18) (.exit 1) (.skip))
def d_stat_Stat_Top_2 : Ac := .seq (.block 1 (.seq (.ops [mv 11 9, i1 12 (.idxArr false 14 1 (.t 8) (.t 9)), mv 5 11, mv 6 12]) (.seq (d_stat_Stat_Top_1) (.ops [mv 19 5, mv 4 19])))) (.ops [i1 20 (.bin .add (.t 9) (k6 1)), mv 9 20])
def d_stat_Stat_Top_3 : Ac := .seq (.ops [i1 7 (.faddr 0 (.t 1)), i1 8 (.load true 14 (.t 7)), i1 9 (.move (k6 0))]) (.block 0 (.loop (.seq (.ops [i1 10 (.bin .lss (.t 9) (k6 14))]) (.seq (.cond (.t 10) (.skip) (.exit 0)) (d_stat_Stat_Top_2)))))
def d_stat_Stat_Top_4 : Ac := .seq (.ops [mv 21 4, i1 22 (.faddr 0 (.t 1)), i1 23 (.iaddrArr 14 1 (.t 22) (.t 21)), i1 24 (.load false 1 (.t 23)), i1 25 (.bin .eql (.t 24) (.c (.int .u64 0)))]) (.cond (.t 25) (.seq (.ops [i1 2 (.move (.c (.str []))), i1 3 (.move (.c (.bool false)))]) (.ret)) (.skip))
def d_stat_Stat_Top_5 : Ac := .seq (.ops [i1 26 (cf f_stat_names []), mv 27 4, i1 28 (.iaddr 1 (.t 26) (.t 27)), i1 29 (.load false 1 (.t 28)), mv 2 29, i1 3 (.move (.c (.bool true)))]) (.ret)
def c_stat_Stat_Top : AFunc := ⟨1, 30, [.tmp 2, .tmp 3],
 .seq (.ops [i1 1 (.box 14 (.t 0)), i1 2 (.move (.c (.str []))), i1 3 (.move (.c (.bool false)))]) (.seq (.ops [i1 4 (.move (k6 0))]) (.seq (.skip) (.seq (d_stat_Stat_Top_3) (.seq (d_stat_Stat_Top_4) (d_stat_Stat_Top_5)))))⟩
def d_stat_Stat_Get_1 : Ac := .seq (.ops [mv 10 6, i1 11 (.bin .lss (.t 10) (k6 0))]) (.cond (.t 11) (.seq (.ops [i1 4 (.move (.c (.int .u64 0))), i1 5 (.move (.c (.bool false)))]) (.ret)) (.skip))
def d_stat_Stat_Get_2 : Ac := .seq (.ops [mv 12 6, i1 13 (.faddr 0 (.t 2)), i1 14 (.iaddrArr 14 1 (.t 13) (.t 12)), i1 15 (.load false 1 (.t 14)), mv 4 15, i1 5 (.move (.c (.bool true)))]) (.ret)
def c_stat_Stat_Get : AFunc := ⟨2, 16, [.tmp 4, .tmp 5],
 .seq (.ops [i1 2 (.box 14 (.t 0)), i1 4 (.move (.c (.int .u64 0))), i1 5 (.move (.c (.bool false)))]) (.seq (.ops [i1 7 (cf f_stat_names []), mv 8 1, i1 9 (cf f_slices_Index_string_string [(.t 7), (.t 8)]), mv 6 9]) (.seq (d_stat_Stat_Get_1) (d_stat_Stat_Get_2)))⟩
def c_stat_Stat_Names : AFunc := ⟨1, 4, [.tmp 2],
 .seq (.ops [i1 1 (.box 14 (.t 0)), i1 2 (.move (.c .nils))]) (.seq (.ops [i1 3 (cf f_stat_names []), mv 2 3]) (.ret))⟩
def d_stat_Stat_Join_1 : Ac := .ops [mv 13 5, mv 14 5, i1 15 (.faddr 0 (.t 2)), i1 16 (.iaddrArr 14 1 (.t 15) (.t 14)), i1 17 (.load false 1 (.t 16)), mv 18 6, i1 19 (cf f_word_Add [(.t 17), (.t 18)]), i1 20 (.faddr 0 (.t 2)), i1 21 (.iaddrArr 14 1 (.t 20) (.t 13)), i0 (.store 1 (.t 21) (.t 19))]
def d_stat_Stat_Join_2 : Ac := .seq (.block 1 (.seq (.ops [mv 11 9, i1 12 (.idxArr false 14 1 (.t 8) (.t 9)), mv 5 11, mv 6 12]) (d_stat_Stat_Join_1))) (.ops [i1 22 (.bin .add (.t 9) (k6 1)), mv 9 22])
def d_stat_Stat_Join_3 : Ac := .seq (.ops [i1 7 (.faddr 0 (.t 3)), i1 8 (.load true 14 (.t 7)), i1 9 (.move (k6 0))]) (.block 0 (.loop (.seq (.ops [i1 10 (.bin .lss (.t 9) (k6 14))]) (.seq (.cond (.t 10) (.skip) (.exit 0)) (d_stat_Stat_Join_2)))))
def c_stat_Stat_Join : AFunc := ⟨2, 24, [.cell 4 true 14],
 .seq (.ops [i1 2 (.box 14 (.t 0)), i1 3 (.box 14 (.t 1)), i1 4 (.alloc (zs .u64 14))]) (.seq (d_stat_Stat_Join_3) (.seq (.ops [i1 23 (.load true 14 (.t 2)), i0 (.store 14 (.t 4) (.t 23))]) (.ret)))⟩
def d_stat_Stat_Rate_1 : Ac := .seq (.ops [mv 15 7, i1 16 (.conv (.flt .f64) (.t 15)), mv 17 2, i1 18 (.conv (.flt .f64) (.t 17)), i1 19 (.bin .quo (.t 16) (.t 18)), mv 6 19]) (.ret)
def d_stat_Stat_Rate_2 : Ac := .seq (.ops [i1 10 (.load true 14 (.t 3)), mv 11 1, i1 12 (cf f_stat_Stat_Get [(.t 10), (.t 11)]), mv 9 12, i1 13 (.extract (.t 9) 0), i1 14 (.extract (.t 9) 1), mv 7 13, mv 8 14]) (d_stat_Stat_Rate_1)
def c_stat_Stat_Rate : AFunc := ⟨3, 20, [.tmp 6],
 .seq (.ops [i1 3 (.box 14 (.t 0)), i1 6 (.move (.c (.flt .f64 0)))]) (d_stat_Stat_Rate_2)⟩
def d_stat_Stat_Less_1 : Ac := .ops [mv 13 5, mv 14 5, i1 15 (.faddr 0 (.t 2)), i1 16 (.iaddrArr 14 1 (.t 15) (.t 14)), i1 17 (.load false 1 (.t 16)), mv 18 6, i1 19 (cf f_word_Sub [(.t 17), (.t 18)]), i1 20 (.faddr 0 (.t 2)), i1 21 (.iaddrArr 14 1 (.t 20) (.t 13)), i0 (.store 1 (.t 21) (.t 19))]
def d_stat_Stat_Less_2 : Ac := .seq (.block 1 (.seq (.ops [mv 11 9, i1 12 (.idxArr false 14 1 (.t 8) (.t 9)), mv 5 11, mv 6 12]) (d_stat_Stat_Less_1))) (.ops [i1 22 (.bin .add (.t 9) (k6 1)), mv 9 22])
def d_stat_Stat_Less_3 : Ac := .seq (.ops [i1 7 (.faddr 0 (.t 3)), i1 8 (.load true 14 (.t 7)), i1 9 (.move (k6 0))]) (.block 0 (.loop (.seq (.ops [i1 10 (.bin .lss (.t 9) (k6 14))]) (.seq (.cond (.t 10) (.skip) (.exit 0)) (d_stat_Stat_Less_2)))))
def c_stat_Stat_Less : AFunc := ⟨2, 24, [.cell 4 true 14],
 .seq (.ops [i1 2 (.box 14 (.t 0)), i1 3 (.box 14 (.t 1)), i1 4 (.alloc (zs .u64 14))]) (.seq (d_stat_Stat_Less_3) (.seq (.ops [i1 23 (.load true 14 (.t 2)), i0 (.store 14 (.t 4) (.t 23))]) (.ret)))⟩
def d_l34_is_1 : Ac := .seq (.ops [mv 25 9, i1 26 (.un .not (.t 25)), mv 27 26, ig 28 (.move (.t 8)) 27 false, ig 29 (.move (.t 1)) 27 false, ig 30 (.move (.t 6)) 27 false, ig 31 (.iaddr 1 (.t 29) (.t 30)) 27 false, ig 32 (.load false 1 (.t 31)) 27 false, ig 33 (.bin .neq (.t 28) (.t 32)) 27 false, i1 34 (.pick (.t 27) (.c (.bool true)) (.t 33))]) (.cond (.t 34) (.seq (.ops [i1 4 (.move (.c (.bool false)))]) (.ret)) (.skip))
def d_l34_is_2 : Ac := .seq (.draw [mv 35 1, mu 36 6 [0], i1 37 (.iaddr 1 (.t 35) (.t 36)), i1 38 (.load false 1 (.t 37)), mu 39 1 (ur 4), mu 40 5 (ur 5), iu 41 (.iaddr 1 (.t 39) (.t 40)) (ur 4), iu 42 (.load false 1 (.t 41)) (ur 4), i1 43 (.bin .gtr (.t 38) (.t 42))]) (.cond (.t 43) (.ops [mv 44 6, mv 5 44]) (.skip))
def d_l34_is_3 : Ac := .seq (.ops [i1 20 (.load true 14 (.t 2)), mv 21 7, i1 22 (cf f_stat_Stat_Get [(.t 20), (.t 21)]), mv 19 22, i1 23 (.extract (.t 19) 0), i1 24 (.extract (.t 19) 1), mv 8 23, mv 9 24]) (.seq (d_l34_is_1) (d_l34_is_2))
def d_l34_is_4 : Ac := .seq (.block 1 (.seq (.ops [mv 16 14, i1 17 (.iaddr 1 (.t 12) (.t 14)), i1 18 (.load false 1 (.t 17)), mv 6 16, mv 7 18]) (d_l34_is_3))) (.ops [i1 45 (.bin .add (.t 14) (k6 1)), mv 14 45])
def d_l34_is_5 : Ac := .seq (.ops [i1 12 (cf f_r34_Names []), i1 13 (.len false (.t 12)), i1 14 (.move (k6 0))]) (.block 0 (.loop (.seq (.ops [i1 15 (.bin .lss (.t 14) (.t 13))]) (.seq (.cond (.t 15) (.skip) (.exit 0)) (d_l34_is_4)))))
def d_l34_is_6 : Ac := .seq (.ops [mv 51 11, mv 52 1, mv 53 5, i1 54 (.iaddr 1 (.t 52) (.t 53)), i1 55 (.load false 1 (.t 54)), i1 56 (.bin .gtr (.t 55) (.c (.int .u64 0))), i1 57 (.eqB false (.t 51) (.t 56)), mv 58 57, ig 59 (.move (.t 11)) 58 true, ig 60 (.move (.t 59)) 58 true, ig 61 (.move (.t 10)) 60 true, ig 62 (cf f_r34_Names []) 60 true, ig 63 (.move (.t 5)) 60 true, ig 64 (.iaddr 1 (.t 62) (.t 63)) 60 true, ig 65 (.load false 1 (.t 64)) 60 true, ig 66 (.bin .eql (.t 61) (.t 65)) 60 true, ig 67 (.pick (.t 60) (.t 66) (.c (.bool false))) 58 true, ig 68 (.move (.t 67)) 58 true, ig 69 (.move (.t 11)) 68 false, ig 70 (.un .not (.t 69)) 68 false, ig 71 (.move (.t 70)) 68 false, ig 72 (.move (.t 10)) 71 true, ig 73 (.bin .eql (.t 72) (.c (.str []))) 71 true, ig 74 (.pick (.t 71) (.t 73) (.c (.bool false))) 68 false, ig 75 (.pick (.t 68) (.c (.bool true)) (.t 74)) 58 true, i1 76 (.pick (.t 58) (.t 75) (.c (.bool false))), mv 4 76]) (.ret)
def d_l34_is_7 : Ac := .seq (.ops [i1 47 (.load true 14 (.t 2)), i1 48 (cf f_stat_Stat_Top [(.t 47)]), mv 46 48, i1 49 (.extract (.t 46) 0), i1 50 (.extract (.t 46) 1), mv 10 49, mv 11 50]) (d_l34_is_6)
def c_l34_is : AFunc := ⟨2, 77, [.tmp 4],
 .seq (.ops [i1 2 (.box 14 (.t 0)), i1 4 (.move (.c (.bool false)))]) (.seq (.ops [i1 5 (.move (k6 0))]) (.seq (d_l34_is_5) (d_l34_is_7)))⟩
def d_slices_Index_string_string_1 : Ac := .seq (.ops [mv 11 1, mv 12 0, mv 13 5, i1 14 (.iaddr 1 (.t 12) (.t 13)), i1 15 (.load false 1 (.t 14)), i1 16 (.bin .eql (.t 11) (.t 15))]) (.cond (.t 16) (.seq (.ops [mv 17 5, mv 4 17]) (.ret)) (.skip))
def d_slices_Index_string_string_2 : Ac := .seq (.cond (.t 9) (.skip) (.exit 0)) (.seq (.block 1 (.seq (.ops [mv 10 8, mv 5 10]) (d_slices_Index_string_string_1))) (.ops [i1 18 (.bin .add (.t 8) (k6 1)), mv 8 18]))
def d_slices_Index_string_string_3 : Ac := .seq (.ops [mv 6 0, i1 7 (.len false (.t 6)), i1 8 (.move (k6 0))]) (.block 0 (.loop (.seq (.ops [i1 9 (.bin .lss (.t 8) (.t 7))]) (d_slices_Index_string_string_2))))
def BF : AFunc := ⟨2, 19, [.tmp 4],
 .seq (.ops [i1 4 (.move (k6 0))]) (.seq (d_slices_Index_string_string_3) (.seq (.ops [i1 4 (.move (k6 (-1)))]) (.ret)))⟩
def d_word_Add_1 : Ac := .seq (.ops [mv 5 1, mv 6 0, i1 7 (.bin .sub (.c (.int .u64 18446744073709551615)) (.t 6)), i1 8 (.bin .gtr (.t 5) (.t 7))]) (.cond (.t 8) (.seq (.ops [i1 4 (.move (.c (.int .u64 18446744073709551615)))]) (.ret)) (.skip))
def c_word_Add : AFunc := ⟨2, 12, [.tmp 4],
 .seq (.ops [i1 4 (.move (.c (.int .u64 0)))]) (.seq (d_word_Add_1) (.seq (.ops [mv 9 0, mv 10 1, i1 11 (.bin .add (.t 9) (.t 10)), mv 4 11]) (.ret)))⟩
def c_word_Sub : AFunc := ⟨2, 10, [.tmp 4],
 .seq (.ops [i1 4 (.move (.c (.int .u64 0)))]) (.seq (.ops [mv 5 0, mv 6 0, mv 7 1, i1 8 (.minI [(.t 6), (.t 7)]), i1 9 (.bin .sub (.t 5) (.t 8)), mv 4 9]) (.ret))⟩
def d_r34_Names_1 : Ac := .seq (.ops [i1 1 (.buildSlice [(.str [])] 1 14 [(0, (.c (.str [111, 112, 101, 110, 101, 100]))), (1, (.c (.str [102, 117, 108, 108]))), (2, (.c (.str [114, 101, 102, 117, 115, 101, 100]))), (3, (.c (.str [98, 97, 100]))), (4, (.c (.str [117, 110, 107, 110, 111, 119, 110]))), (5, (.c (.str [101, 109, 112, 116, 121]))), (6, (.c (.str [100, 114, 111, 112, 112, 101, 100]))), (7, (.c (.str [114, 101, 106, 101, 99, 116, 101, 100]))), (8, (.c (.str [97, 99, 99, 101, 112, 116, 101, 100]))), (9, (.c (.str [115, 101, 110, 116]))), (10, (.c (.str [108, 111, 115, 116]))), (11, (.c (.str [99, 108, 111, 115, 101, 100]))), (12, (.c (.str [114, 101, 97, 112, 101, 100]))), (13, (.c (.str [102, 111, 114, 99, 101, 100])))]), mv 0 1]) (.ret)
def c_r34_Names : AFunc := ⟨0, 2, [.tmp 0],
 .seq (.ops [i1 0 (.move (.c .nils))]) (d_r34_Names_1)⟩
def fnS (n : Nat) : Option AFunc := (bif Nat.blt n 58 then (bif Nat.blt n 53 then (bif Nat.blt n 50 then (bif Nat.beq n 11 then some c_l34_StatTop else none) else (bif Nat.blt n 51 then (bif Nat.beq n 50 then some c_stat_Of else none) else (bif Nat.beq n 51 then some c_stat_Stat_Get else none))) else (bif Nat.blt n 56 then (bif Nat.beq n 53 then some c_stat_Stat_Rate else none) else (bif Nat.blt n 57 then (bif Nat.beq n 56 then some c_l34_is else none) else (bif Nat.beq n 57 then some c_stat_Stat_Join else none)))) else (bif Nat.blt n 67 then (bif Nat.blt n 62 then (bif Nat.beq n 58 then some c_stat_Stat_Less else none) else (bif Nat.blt n 63 then (bif Nat.beq n 62 then some c_stat_Stat_Names else none) else (bif Nat.beq n 63 then some c_r34_Names else none))) else (bif Nat.blt n 132 then (bif Nat.blt n 82 then (bif Nat.beq n 67 then some c_stat_Stat_Top else none) else (bif Nat.beq n 82 then some c_word_Add else none)) else (bif Nat.blt n 135 then (bif Nat.beq n 132 then some BF else none) else (bif Nat.beq n 135 then some c_word_Sub else none)))))
def nameL : List (List UInt8) := [[111, 112, 101, 110, 101, 100], [102, 117, 108, 108], [114, 101, 102, 117, 115, 101, 100], [98, 97, 100], [117, 110, 107, 110, 111, 119, 110], [101, 109, 112, 116, 121], [100, 114, 111, 112, 112, 101, 100], [114, 101, 106, 101, 99, 116, 101, 100], [97, 99, 99, 101, 112, 116, 101, 100], [115, 101, 110, 116], [108, 111, 115, 116], [99, 108, 111, 115, 101, 100], [114, 101, 97, 112, 101, 100], [102, 111, 114, 99, 101, 100]]
def namesV : Zv := .imm (nameL.map fun s => [.str s])
def pureS (n : Nat) : Option (List Zv → Option Zv) := bif Nat.beq n 49 then some (fun l => match l with
 | [] => some (.bool true)
 | _ => none) else bif Nat.beq n 133 then some (fun l => match l with
 | [] => some namesV
 | _ => none) else none
def primS (n : Nat) : Option Prim := bif Nat.beq n 136 then some (pureP frombitsG) else bif Nat.beq n 137 then some (pureP bitsG) else none
def APs : AProg := { fn := fnS, keep := fun _ => false, split := fun _ => false, prim := primS, pure := pureS, slim := true }
end Go.Eng.St
namespace Go.Eng.St
open Go Go.Eng
variable [Inhabited GlobT]
attribute [local irreducible] OpR TL TD TC TS Ak
abbrev u6 (n : Nat) : Zv := .int .u64 (n : Int)
def satN (x y : Nat) : Nat := if 18446744073709551615 - x < y then 18446744073709551615 else x + y
theorem satN_lt {x y : Nat} (hx : x < 18446744073709551616) : satN x y < 18446744073709551616 := by unfold satN; split <;> omega
theorem add_ok (x y : Nat) (hx : x < 18446744073709551616) (hy : y < 18446744073709551616) : Ak APs f_word_Add [u6 x, u6 y] (u6 (satN x y)) := by
 refine Al (af := c_word_Add) rfl rfl ?_
 refine tS (tO (tR 1 rfl (tN (tS (tS (tO ?_))))))
 refine tR 2 rfl ?_; refine tP (o_subu (a := 18446744073709551615) rfl rfl (by omega) (fits_u64 (by omega))) rfl rfl rfl rfl ?_
 refine tR 1 rfl (tN ?_)
 refine tQ rfl decide_eq_true_iff (fun h => ?_) (fun h => ?_)
 ·have : satN x y = 18446744073709551615 := by unfold satN; rw [if_pos (by omega)]
  rw [this]
  refine tS (tO (tR 1 rfl (tN ?_))); exact tT (AS rfl ⟨_, fzO rfl⟩)
 ·have : satN x y = x + y := by unfold satN; rw [if_neg (by omega)]
  rw [this]
  refine tK (tS (tO (tR 2 rfl ?_))); refine tP (o_addu rfl rfl (fits_u64 (by omega))) rfl rfl rfl rfl ?_
  refine tR 1 rfl (tN ?_); exact tT (AS rfl ⟨_, fzO rfl⟩)
def subN (x y : Nat) : Nat := x - y
theorem sub_ok (x y : Nat) (hx : x < 18446744073709551616) (hy : y < 18446744073709551616) : Ak APs f_word_Sub [u6 x, u6 y] (u6 (subN x y)) := by
 have : subN x y = x - min x y := by unfold subN; omega
 rw [this]
 refine Al (af := c_word_Sub) rfl rfl ?_
 refine tS (tO (tR 1 rfl (tN (tS (tO (tR 3 rfl ?_))))))
 refine tP (o_minn rfl rfl) rfl rfl rfl rfl ?_; refine tP (o_subu rfl rfl (by omega) (fits_u64 (by omega))) rfl rfl rfl rfl ?_
 refine tR 1 rfl (tN ?_); exact tT (AS rfl ⟨_, fzO rfl⟩)
abbrev cl (L : List Nat) : List Zv := L.map u6
@[simp] theorem cl_closed (L : List Nat) : Aj (cl L) = true := cLm (fun _ => rfl) _
@[simp] theorem cl_noref (L : List Nat) : norefL (cl L) = true := nLm (fun _ => rfl) _
@[simp] theorem cr_closed (L : List Nat) : Ao (L.map fun x => [u6 x]) = true := cLLm (fun _ => rfl) _
@[simp] theorem cr_noref (L : List Nat) : norefLL (L.map fun x => [u6 x]) = true := nLLm (fun _ => rfl) _
def OkL (L : List Nat) : Prop := L.length = 14 ∧ ∀ x ∈ L, x < 18446744073709551616
theorem OkL.get {L : List Nat} (h : OkL L) (i : Nat) : L.getD i 0 < 18446744073709551616 := by
 rw [List.getD_eq_getElem?_getD]
 cases hi : L[i]? with
 | none => simp
 | some x => exact h.2 x (List.mem_of_getElem? hi)
theorem of14 {L : List Nat} (h : OkL L) : ∃ a b c d e f g i j k l m n o, L = [a, b, c, d, e, f, g, i, j, k, l, m, n, o] := by
 obtain ⟨h, -⟩ := h
 match L, h with
 | [a, b, c, d, e, f, g, i, j, k, l, m, n, o], _ => exact ⟨a, b, c, d, e, f, g, i, j, k, l, m, n, o, rfl⟩
set_option maxRecDepth 20000 in
theorem of_ok (L : List Nat) (h : OkL L) : Ak APs f_stat_Of [.agg (cl L)] (.agg (cl L)) := by
 obtain ⟨a, b, c, d, e, f, g, i, j, k, l, m, n, o, rfl⟩ := of14 h
 refine Al (af := c_stat_Of) rfl rfl ?_
 refine tS (tO (tR 2 rfl (tN (tS (tO (tR 28 rfl ?_))))))
 refine tP (o_buildN rfl rfl) rfl rfl rfl rfl ?_; refine tP (o_buildN rfl rfl) rfl rfl rfl rfl ?_; refine tR 1 rfl (tN ?_)
 exact tT (AS rfl ⟨_, fzO rfl⟩)
theorem names_ok (L : List Nat) (h : OkL L) : Ak APs f_stat_Stat_Names [.agg (cl L)] namesV := by
 obtain ⟨a, b, c, d, e, f, g, i, j, k, l, m, n, o, rfl⟩ := of14 h
 refine Al (af := c_stat_Stat_Names) rfl rfl ?_
 refine tS (tO (tR 2 rfl (tN (tS (tO (tR 2 rfl ?_))))))
 refine tN ?_; exact tT (AS rfl ⟨_, fzO rfl⟩)
theorem rnames_ok : Ak APs f_r34_Names [] namesV := by
 refine Al (af := c_r34_Names) rfl rfl ?_
 refine tS (tO (tR 1 rfl (tN (tS (tO ?_)))))
 refine tP (AZ rfl rfl rfl) rfl rfl rfl rfl ?_; refine tR 1 rfl (tN ?_); exact tT (retd_lim rfl rfl)
def idxI (ls : List (List UInt8)) (s : List UInt8) : Int := if s ∈ ls then (ls.idxOf s : Int) else -1
theorem idxI_at {ls : List (List UInt8)} {s : List UInt8} {i : Nat} (h : ls[i]? = some s) (hn : ∀ j, j < i → ls[j]? ≠ some s) : idxI ls s = (i : Int) := by
 obtain ⟨hi, hs⟩ := List.getElem?_eq_some_iff.1 h
 have hm : s ∈ ls := hs ▸ List.getElem_mem hi
 unfold idxI
 rw [if_pos hm]
 have h1 : ls.idxOf s < ls.length := List.idxOf_lt_length_iff.2 hm
 have h2 : ls[ls.idxOf s] = s := List.getElem_idxOf h1
 have h3 : ls.idxOf s = i := by
  rcases Nat.lt_trichotomy (ls.idxOf s) i with h4 | h4 | h4
  ·exact absurd (by rw [List.getElem?_eq_getElem h1, h2]) (hn _ h4)
  ·exact h4
  ·exfalso
   have := List.not_of_lt_findIdx (p := (· == s)) (xs := ls) (i := i) h4
   simp [hs] at this
 omega
theorem index_ok (ls : List (List UInt8)) (hl : ls.length < 4294967296) (s : List UInt8) : Ak APs f_slices_Index_string_string [.imm (ls.map fun t => [.str t]), .str s] (.int .i64 (idxI ls s)) := by
 refine Al (af := BF) rfl rfl ?_
 refine tS (tO (tR 1 rfl (tN (tS (tS (tO ?_))))))
 refine tR 3 rfl (tN ?_)
 refine tB (lST (σ := Nat) (fun i => ls.length - i) (fun i => [(0, .imm (ls.map fun t => [.str t])), (1, .str s), (7, .int .i64 ((ls.map fun t => [Zv.str t]).length : Int)), (8, .int .i64 (i : Int))])
  (fun i S => i ≤ ls.length ∧ S = [] ∧ ∀ j, j < i → ls[j]? ≠ some s) 0 (by (repeat' (first | exact wN | refine wC rfl ?_))) ⟨by omega, rfl, fun j h => absurd h (by omega)⟩ ?_)
 rintro i S ⟨hi, rfl, hn⟩
 refine tS (tO (tR 1 rfl (tN (tS ?_))))
 refine tQ rfl decide_eq_true_iff (fun h => tK ?_) (fun h => tX ?_)
 ·have hi' : i < ls.length := by simp at h; omega
  refine tS ?_; refine tB ?_; refine tS (tO (tR 2 rfl (tN (tS (tO ?_)))))
  refine tR 3 rfl ?_
  refine tP (Bl rfl rfl (AQ (d := []) hi') rfl) rfl rfl rfl rfl ?_
  refine tR 2 rfl (tN ?_)
  have hg : ls[i]? = some (ls.getD i []) := by rw [List.getD_eq_getElem?_getD, List.getElem?_eq_getElem hi']; rfl
  refine tQ rfl beq_iff_eq (fun c => ?_) (fun c => ?_)
  ·have e : idxI ls s = (i : Int) := idxI_at (by rw [hg, ← c]) hn
   rw [e]
   refine tS (tO (tR 2 rfl (tN ?_))); exact tT (AS rfl ⟨_, fzO rfl⟩)
  ·refine tK (tO ?_); refine tP (oA (b := 1) rfl rfl (by omega)) rfl rfl rfl rfl ?_; refine tR 1 rfl (tN ?_)
   refine ⟨i + 1, by omega, by (repeat' (first | exact wN | refine wC rfl ?_)), by omega, rfl, fun j hj => ?_⟩
   rcases Nat.lt_or_ge j i with h1 | h1
   ·exact hn j h1
   ·have : j = i := by omega
    subst this
    rw [hg]
    exact fun h2 => c (Option.some.inj h2).symm
 ·have e : idxI ls s = -1 := by
   unfold idxI
   rw [if_neg]
   intro hm
   obtain ⟨j, hj, hjs⟩ := List.getElem_of_mem hm
   have hlen : ls.length ≤ i := by simp at h; omega
   exact hn j (by omega) (by rw [List.getElem?_eq_getElem hj, hjs])
  rw [e]
  refine tS (tO (tR 1 rfl (tN ?_))); exact tT (AS rfl ⟨_, fzO rfl⟩)
def getV (L : List Nat) (s : List UInt8) : Nat := if s ∈ nameL then L.getD (nameL.idxOf s) 0 else 0
theorem getV_lt {L : List Nat} (h : OkL L) (s : List UInt8) : getV L s < 18446744073709551616 := by
 unfold getV
 split
 ·exact h.get _
 ·omega
theorem name_lt {s : List UInt8} (h : s ∈ nameL) : nameL.idxOf s < 14 := List.idxOf_lt_length_iff.2 h
theorem get_ok (L : List Nat) (h : OkL L) (s : List UInt8) : Ak APs f_stat_Stat_Get [.agg (cl L), .str s] (.tuple [u6 (getV L s), .bool (decide (s ∈ nameL))]) := by
 have hi := index_ok nameL (by decide) s
 have hlen := h.1
 by_cases hm : s ∈ nameL
 ·have e1 : idxI nameL s = ((nameL.idxOf s : Nat) : Int) := if_pos hm
  have e2 : getV L s = L.getD (nameL.idxOf s) 0 := if_pos hm
  have e3 : decide (s ∈ nameL) = true := by simp [hm]
  have e4 := name_lt hm
  rw [e1] at hi
  rw [e2, e3]
  generalize nameL.idxOf s = i at *
  refine Al (af := c_stat_Stat_Get) rfl rfl ?_
  refine tS (tO ?_); refine AH (o_boxW rfl (by simp; omega)) rfl rfl rfl rfl ?_; refine tR 2 rfl (tN ?_)
  refine tS (tO (tR 2 rfl ?_)); refine tC rfl rfl (hi) rfl rfl rfl rfl rfl rfl ?_; refine tR 1 rfl ?_
  refine tN (tS (tS (tO (tR 2 rfl (tN ?_)))))
  refine AI (t := false) rfl (fun h => nomatch h) (fun _ => ?_); refine tK (tS (tO (tR 2 rfl ?_)))
  refine tP (AM rfl rfl (by omega)) rfl rfl rfl rfl ?_; refine tP (AN 0 rfl rfl (by omega)) rfl rfl rfl rfl ?_; refine tR 2 rfl ?_
  refine tN ?_; exact tT (AS rfl ⟨_, fzO rfl⟩)
 ·have e1 : idxI nameL s = -1 := if_neg hm
  have e2 : getV L s = 0 := if_neg hm
  have e3 : decide (s ∈ nameL) = false := by simp [hm]
  rw [e1] at hi
  rw [e2, e3]
  obtain ⟨a, b, c, d, e, f, g, i', j, k, l, m, n, o, rfl⟩ := of14 h
  refine Al (af := c_stat_Stat_Get) rfl rfl ?_
  refine tS (tO (tR 3 rfl (tN (tS (tO (tR 2 rfl ?_))))))
  refine tC rfl rfl (hi) rfl rfl rfl rfl rfl rfl ?_; refine tR 1 rfl (tN (tS (tS (tO ?_))))
  refine tR 2 rfl (tN ?_); refine AI (t := true) rfl (fun _ => ?_) (fun h => nomatch h); refine tS (tO ?_)
  refine tR 2 rfl (tN ?_); exact tT (AS rfl ⟨_, fzO rfl⟩)
def partL (f : Nat → Nat → Nat) (L M : List Nat) (i : Nat) : List Nat := (List.range 14).map fun j => if j < i then f (L.getD j 0) (M.getD j 0) else L.getD j 0
def allL (f : Nat → Nat → Nat) (L M : List Nat) : List Nat := (List.range 14).map fun j => f (L.getD j 0) (M.getD j 0)
theorem partL_len (f : Nat → Nat → Nat) (L M : List Nat) (i : Nat) : (partL f L M i).length = 14 := by simp [partL]
theorem partL_zero {f : Nat → Nat → Nat} {L M : List Nat} (h : OkL L) : partL f L M 0 = L := by
 obtain ⟨a, b, c, d, e, f', g, i, j, k, l, m, n, o, rfl⟩ := of14 h
 rfl
theorem partL_all {f : Nat → Nat → Nat} {L M : List Nat} : partL f L M 14 = allL f L M := by
 unfold partL allL
 refine List.map_congr_left fun j hj => ?_
 rw [if_pos (List.mem_range.1 hj)]
theorem partL_get {f : Nat → Nat → Nat} {L M : List Nat} {i j : Nat} (hj : j < 14) : (partL f L M i).getD j 0 = if j < i then f (L.getD j 0) (M.getD j 0) else L.getD j 0 := by
 unfold partL
 rw [List.getD_eq_getElem?_getD, List.getElem?_map, List.getElem?_range hj]; rfl
theorem partL_set {f : Nat → Nat → Nat} {L M : List Nat} {i : Nat} (hi : i < 14) : (partL f L M i).set i (f (L.getD i 0) (M.getD i 0)) = partL f L M (i + 1) := by
 refine List.ext_getElem? fun j => ?_
 rw [List.getElem?_set]
 by_cases hj : j < 14
 ·have e : ∀ k, (partL f L M k)[j]? = some (if j < k then f (L.getD j 0) (M.getD j 0) else L.getD j 0) := fun k => by
   unfold partL
   rw [List.getElem?_map, List.getElem?_range hj]; rfl
  rw [e, e, partL_len]
  by_cases hij : i = j
  ·subst hij
   rw [if_pos rfl, if_pos hi, if_pos (Nat.lt_succ_self _)]
  ·rw [if_neg hij]
   by_cases h2 : j < i
   ·rw [if_pos h2, if_pos (by omega)]
   ·rw [if_neg h2, if_neg (by omega)]
 ·rw [List.getElem?_eq_none (by rw [partL_len]; omega), List.getElem?_eq_none (by rw [partL_len]; omega)]
  split
  ·rw [if_neg (by rw [partL_len]; omega)]
  ·rfl
theorem allL_ok {f : Nat → Nat → Nat} {L M : List Nat} (hf : ∀ x y, x < 18446744073709551616 → f x y < 18446744073709551616) (h : OkL L) : OkL (allL f L M) := by
 refine ⟨by simp [allL], fun x hx => ?_⟩
 obtain ⟨j, -, rfl⟩ := List.mem_map.1 hx
 exact hf _ _ (h.get j)
theorem join_ok (L M : List Nat) (h : OkL L) (hM : OkL M) : Ak APs f_stat_Stat_Join [.agg (cl L), .agg (cl M)] (.agg (cl (allL satN L M))) := by
 have hl := h.1
 have hm := hM.1
 refine Al (af := c_stat_Stat_Join) rfl rfl ?_
 refine tS (tO ?_); refine AH (o_boxW rfl (by simp; omega)) rfl rfl rfl rfl ?_
 refine AH (o_boxW rfl (by simp; omega)) rfl rfl rfl rfl ?_; refine tR 1 rfl (tN (tS (tS ?_)))
 refine tO (tR 1 rfl ?_); refine tP (oLW rfl rfl (by simp; omega)) rfl rfl rfl rfl ?_; refine tR 1 rfl (tN ?_)
 refine tB (lST (σ := Nat) (fun i => 14 - i) (fun i => [(2, .ptr 0 0 0), (3, .ptr 1 0 0), (4, .ptr 2 0 0), (8, .agg (cl M)), (9, .int .i64 (i : Int))])
  (fun i S => i ≤ 14 ∧ S = [some ⟨14, [cl (partL satN L M i)]⟩, some ⟨14, [cl M]⟩, some ⟨14, [zs .u64 14]⟩]) 0 (by (repeat' (first | exact wN | refine wC rfl ?_))) ⟨by omega, by rw [partL_zero h]; rfl⟩ ?_)
 rintro i S ⟨hi, rfl⟩
 have hp := partL_len satN L M i
 refine tS (tO (tR 1 rfl (tN (tS ?_))))
 refine tQ rfl decide_eq_true_iff (fun c => tK ?_) (fun c => tX ?_)
 ·have hi' : i < 14 := by omega
  have ha := add_ok ((partL satN L M i).getD i 0) (M.getD i 0) (by rw [partL_get hi', if_neg (by omega)]; exact h.get i) (hM.get i)
  refine tS ?_; refine tB ?_; refine tS (tO (tR 1 rfl ?_))
  refine tP (o_idxA 0 rfl rfl (by omega) (by omega)) rfl rfl rfl rfl ?_; refine tR 2 rfl (tN (tO ?_))
  refine tR 3 rfl ?_; refine tP (AM rfl rfl (by omega)) rfl rfl rfl rfl ?_; refine tP (AN 0 rfl rfl (by omega)) rfl rfl rfl rfl ?_
  refine tR 1 rfl ?_; refine tC rfl rfl (ha) rfl rfl rfl rfl rfl rfl ?_; refine tR 1 rfl ?_
  refine tP (AM rfl rfl (by omega)) rfl rfl rfl rfl ?_; refine tP (o_storeA rfl rfl rfl rfl rfl (by omega)) rfl rfl rfl rfl ?_
  refine tN (tO ?_); refine tP (oA (b := 1) rfl rfl (by omega)) rfl rfl rfl rfl ?_; refine tR 1 rfl (tN ?_)
  refine ⟨i + 1, by omega, by (repeat' (first | exact wN | refine wC rfl ?_)), by omega, ?_⟩
  have e : satN ((partL satN L M i).getD i 0) (M.getD i 0) = satN (L.getD i 0) (M.getD i 0) := by rw [partL_get hi', if_neg (by omega)]
  rw [← partL_set (f := satN) (L := L) (M := M) hi', ← e]
  simp [List.map_set]
 ·have : i = 14 := by omega
  subst this
  rw [partL_all]
  refine tS (tO (tR 2 rfl (tN ?_))); exact tT (AS rfl ⟨_, fzO rfl⟩)
theorem less_ok (L M : List Nat) (h : OkL L) (hM : OkL M) : Ak APs f_stat_Stat_Less [.agg (cl L), .agg (cl M)] (.agg (cl (allL subN L M))) := by
 have hl := h.1
 have hm := hM.1
 refine Al (af := c_stat_Stat_Less) rfl rfl ?_
 refine tS (tO ?_); refine AH (o_boxW rfl (by simp; omega)) rfl rfl rfl rfl ?_
 refine AH (o_boxW rfl (by simp; omega)) rfl rfl rfl rfl ?_; refine tR 1 rfl (tN (tS (tS ?_)))
 refine tO (tR 1 rfl ?_); refine tP (oLW rfl rfl (by simp; omega)) rfl rfl rfl rfl ?_; refine tR 1 rfl (tN ?_)
 refine tB (lST (σ := Nat) (fun i => 14 - i) (fun i => [(2, .ptr 0 0 0), (3, .ptr 1 0 0), (4, .ptr 2 0 0), (8, .agg (cl M)), (9, .int .i64 (i : Int))])
  (fun i S => i ≤ 14 ∧ S = [some ⟨14, [cl (partL subN L M i)]⟩, some ⟨14, [cl M]⟩, some ⟨14, [zs .u64 14]⟩]) 0 (by (repeat' (first | exact wN | refine wC rfl ?_))) ⟨by omega, by rw [partL_zero h]; rfl⟩ ?_)
 rintro i S ⟨hi, rfl⟩
 have hp := partL_len subN L M i
 refine tS (tO (tR 1 rfl (tN (tS ?_))))
 refine tQ rfl decide_eq_true_iff (fun c => tK ?_) (fun c => tX ?_)
 ·have hi' : i < 14 := by omega
  have ha := sub_ok ((partL subN L M i).getD i 0) (M.getD i 0) (by rw [partL_get hi', if_neg (by omega)]; exact h.get i) (hM.get i)
  refine tS ?_; refine tB ?_; refine tS (tO (tR 1 rfl ?_))
  refine tP (o_idxA 0 rfl rfl (by omega) (by omega)) rfl rfl rfl rfl ?_; refine tR 2 rfl (tN (tO ?_))
  refine tR 3 rfl ?_; refine tP (AM rfl rfl (by omega)) rfl rfl rfl rfl ?_; refine tP (AN 0 rfl rfl (by omega)) rfl rfl rfl rfl ?_
  refine tR 1 rfl ?_; refine tC rfl rfl (ha) rfl rfl rfl rfl rfl rfl ?_; refine tR 1 rfl ?_
  refine tP (AM rfl rfl (by omega)) rfl rfl rfl rfl ?_; refine tP (o_storeA rfl rfl rfl rfl rfl (by omega)) rfl rfl rfl rfl ?_
  refine tN (tO ?_); refine tP (oA (b := 1) rfl rfl (by omega)) rfl rfl rfl rfl ?_; refine tR 1 rfl (tN ?_)
  refine ⟨i + 1, by omega, by (repeat' (first | exact wN | refine wC rfl ?_)), by omega, ?_⟩
  have e : subN ((partL subN L M i).getD i 0) (M.getD i 0) = subN (L.getD i 0) (M.getD i 0) := by rw [partL_get hi', if_neg (by omega)]
  rw [← partL_set (f := subN) (L := L) (M := M) hi', ← e]
  simp [List.map_set]
 ·have : i = 14 := by omega
  subst this
  rw [partL_all]
  refine tS (tO (tR 2 rfl (tN ?_))); exact tT (AS rfl ⟨_, fzO rfl⟩)
def bestN (L : List Nat) : Nat → Nat
 | 0 => 0
 | i + 1 => if L.getD i 0 ≤ L.getD (bestN L i) 0 then bestN L i else i
theorem bestN_lt (L : List Nat) : ∀ i, i ≤ 14 → bestN L i < 14
 | 0, _ => by simp [bestN]
 | i + 1, h => by
   have := bestN_lt L i (by omega)
   unfold bestN
   split <;> omega
def topV (L : List Nat) : List UInt8 := if L.getD (bestN L 14) 0 = 0 then [] else nameL.getD (bestN L 14) []
def topB (L : List Nat) : Bool := decide (L.getD (bestN L 14) 0 ≠ 0)
theorem top_ok (L : List Nat) (h : OkL L) : Ak APs f_stat_Stat_Top [.agg (cl L)] (.tuple [.str (topV L), .bool (topB L)]) := by
 have hl := h.1
 refine Al (af := c_stat_Stat_Top) rfl rfl ?_
 refine tS (tO ?_); refine AH (o_boxW rfl (by simp; omega)) rfl rfl rfl rfl ?_; refine tR 2 rfl (tN ?_)
 refine tS (tO (tR 1 rfl (tN (tS (tK (tS (tS ?_)))))))
 refine tO (tR 1 rfl ?_); refine tP (oLW rfl rfl (by simp; omega)) rfl rfl rfl rfl ?_; refine tR 1 rfl (tN ?_)
 refine tB (lST (σ := Nat) (fun i => 14 - i) (fun i => [(1, .ptr 0 0 0), (2, .str []), (3, .bool false), (4, .int .i64 (bestN L i : Int)), (8, .agg (cl L)), (9, .int .i64 (i : Int))])
  (fun i S => i ≤ 14 ∧ S = [some ⟨14, [cl L]⟩]) 0 (by (repeat' (first | exact wN | refine wC rfl ?_))) ⟨by omega, rfl⟩ ?_)
 rintro i S ⟨hi, rfl⟩
 have hb := bestN_lt L i hi
 refine tS (tO (tR 1 rfl (tN (tS ?_))))
 refine tQ rfl decide_eq_true_iff (fun c => tK ?_) (fun c => tX ?_)
 ·have hi' : i < 14 := by omega
  refine tS ?_; refine tB ?_; refine tS (tO (tR 1 rfl ?_))
  refine tP (o_idxA 0 rfl rfl (by omega) (by omega)) rfl rfl rfl rfl ?_; refine tR 2 rfl (tN (tS (tS ?_)))
  refine tO (tR 3 rfl ?_); refine tP (AM rfl rfl (by omega)) rfl rfl rfl rfl ?_
  refine tP (AN 0 rfl rfl (by omega)) rfl rfl rfl rfl ?_; refine tR 1 rfl (tN ?_)
  refine tQ rfl decide_eq_true_iff (fun g => tX ?_) (fun g => tK ?_)
  ·have e : bestN L (i + 1) = bestN L i := if_pos (by omega)
   refine tO ?_; refine tP (oA (b := 1) rfl rfl (by omega)) rfl rfl rfl rfl ?_; refine tR 1 rfl (tN ?_)
   exact ⟨i + 1, by omega, by rw [e]; (repeat' (first | exact wN | refine wC rfl ?_)), by omega, rfl⟩
  ·have e : bestN L (i + 1) = i := if_neg (by omega)
   refine tO (tR 2 rfl (tN (tO ?_))); refine tP (oA (b := 1) rfl rfl (by omega)) rfl rfl rfl rfl ?_
   refine tR 1 rfl (tN ?_)
   exact ⟨i + 1, by omega, by rw [e]; (repeat' (first | exact wN | refine wC rfl ?_)), by omega, rfl⟩
 ·have : i = 14 := by omega
  subst this
  refine tS (tS (tO (tR 2 rfl ?_))); refine tP (AM rfl rfl (by omega)) rfl rfl rfl rfl ?_
  refine tP (AN 0 rfl rfl (by omega)) rfl rfl rfl rfl ?_; refine tR 1 rfl (tN ?_)
  refine tQ rfl beq_iff_eq (fun g => ?_) (fun g => tK ?_)
  ·have g : L.getD (bestN L 14) 0 = 0 := by omega
   have e1 : topV L = [] := if_pos g
   have e2 : topB L = false := by unfold topB; rw [g]; rfl
   rw [e1, e2]
   refine tS (tO (tR 2 rfl (tN ?_))); exact tT (AS rfl ⟨_, fzO rfl⟩)
  ·have g : L.getD (bestN L 14) 0 ≠ 0 := by omega
   have e1 : topV L = nameL.getD (bestN L 14) [] := if_neg g
   have e2 : topB L = true := by unfold topB; exact decide_eq_true g
   rw [e1, e2]
   have hb' : bestN L 14 < nameL.length := hb
   refine tS (tO (tR 2 rfl ?_))
   refine tP (Bl rfl rfl (AQ (d := []) hb') rfl) rfl rfl rfl rfl ?_
   refine tR 3 rfl (tN ?_); exact tT (AS rfl ⟨_, fzO rfl⟩)
theorem name_at : ∀ i, i < 14 → nameL.idxOf (nameL.getD i []) = i ∧ nameL.getD i [] ∈ nameL := by decide
theorem getV_at (L : List Nat) {i : Nat} (hi : i < 14) : getV L (nameL.getD i []) = L.getD i 0 ∧ decide (nameL.getD i [] ∈ nameL) = true := by
 obtain ⟨h1, h2⟩ := name_at i hi
 exact ⟨by unfold getV; rw [if_pos h2, h1], decide_eq_true h2⟩
theorem is_ok (L : List Nat) (h : OkL L) : Ak APs f_l34_is [.agg (cl L), .imm (L.map fun x => [u6 x])] (.bool true) := by
 have hl := h.1
 have hr := rnames_ok
 refine Al (af := c_l34_is) rfl rfl ?_
 refine tS (tO ?_); refine AH (o_boxW rfl (by simp; omega)) rfl rfl rfl rfl ?_; refine tR 1 rfl (tN ?_)
 refine tS (tO (tR 1 rfl (tN (tS (tS (tO ?_))))))
 refine tC rfl rfl (hr) rfl rfl rfl rfl rfl rfl ?_; refine tR 2 rfl (tN ?_)
 refine tB (lST (σ := Nat) (fun i => 14 - i) (fun i => [(1, .imm (L.map fun x => [u6 x])), (2, .ptr 0 0 0), (4, .bool false), (5, .int .i64 (bestN L i : Int)), (12, namesV), (13, .int .i64 14), (14, .int .i64 (i : Int))])
  (fun i S => i ≤ 14 ∧ S = [some ⟨14, [cl L]⟩]) 0 (by (repeat' (first | exact wN | refine wC rfl ?_))) ⟨by omega, rfl⟩ ?_)
 rintro i S ⟨hi, rfl⟩
 have hb := bestN_lt L i hi
 refine tS (tO (tR 1 rfl (tN (tS ?_))))
 refine tQ rfl decide_eq_true_iff (fun c => tK ?_) (fun c => tX ?_)
 ·have hi' : i < 14 := by omega
  have hin : i < nameL.length := hi'
  have hiL : i < L.length := by omega
  have hbL : bestN L i < L.length := by omega
  have hg := get_ok L h (nameL.getD i [])
  obtain ⟨g1, g2⟩ := getV_at L hi'
  rw [g1, g2] at hg
  refine tS ?_; refine tB ?_; refine tS (tO (tR 1 rfl ?_))
  refine tP (Bl rfl rfl (AQ (d := []) hin) rfl) rfl rfl rfl rfl ?_
  refine tR 3 rfl (tN (tS (tO ?_))); refine tP (oLW rfl rfl (by simp; omega)) rfl rfl rfl rfl ?_
  refine tR 1 rfl ?_
  refine tC rfl (by simp [Zv.closed, Aj, Ao, cLm, cLLm]) (hg) (by simp [Zv.noref, Zv.flat, norefL, norefLL, nLm, nLLm]) rfl rfl rfl rfl rfl ?_
  refine tR 5 rfl (tN (tS (tS (tO (tR 6 rfl ?_)))))
  refine tP (Bl rfl rfl (AQ (d := 0) (by omega)) rfl) rfl rfl rfl rfl ?_; refine tR 3 rfl (tN ?_)
  refine tQ rfl bne_iff_ne (fun h => absurd rfl h) (fun _ => tK ?_)
  refine tS ?_; refine tD0 rfl ?_; refine dR 2 rfl ?_; refine dP rfl rfl (Bl rfl rfl (AQ (d := 0) (by omega)) rfl) ?_
  refine dR 3 rfl ?_; refine dP rfl rfl (Bl rfl rfl (AQ (d := 0) (by omega)) rfl) ?_; refine dR 2 rfl (dN ?_)
  refine ⟨rfl, ?_⟩
  refine tQ rfl decide_eq_true_iff (fun g => ?_) (fun g => tK ?_)
  ·have e : bestN L (i + 1) = i := if_neg (by omega)
   refine tO (tR 2 rfl (tN (tO ?_))); refine tP (oA (b := 1) rfl rfl (by omega)) rfl rfl rfl rfl ?_
   refine tR 1 rfl (tN ?_)
   exact ⟨i + 1, by omega, by rw [e]; (repeat' (first | exact wN | refine wC rfl ?_)), by omega, rfl⟩
  ·have e : bestN L (i + 1) = bestN L i := if_pos (by omega)
   refine tO ?_; refine tP (oA (b := 1) rfl rfl (by omega)) rfl rfl rfl rfl ?_; refine tR 1 rfl (tN ?_)
   exact ⟨i + 1, by omega, by rw [e]; (repeat' (first | exact wN | refine wC rfl ?_)), by omega, rfl⟩
 ·have : i = 14 := by omega
  subst this
  have ht := top_ok L h
  have hbL : bestN L 14 < L.length := by omega
  have hb' : bestN L 14 < nameL.length := hb
  by_cases g : L.getD (bestN L 14) 0 = 0
  ·have e1 : topV L = [] := if_pos g
   have e2 : topB L = false := by unfold topB; rw [g]; rfl
   rw [e1, e2] at ht
   refine tS (tO ?_); refine tP (oLW rfl rfl (by simp; omega)) rfl rfl rfl rfl ?_
   refine tC rfl (by simp [Zv.closed, Aj, Ao, cLm, cLLm]) (ht) (by simp [Zv.noref, Zv.flat, norefL, norefLL, nLm, nLLm]) rfl rfl rfl rfl rfl ?_
   refine tR 5 rfl (tN (tS (tO (tR 3 rfl ?_))))
   refine tP (Bl rfl rfl (AQ (d := 0) (by omega)) rfl) rfl rfl rfl rfl ?_; refine tR 4 rfl ?_
   have e3 : decide (((L.getD (bestN L 14) 0 : Nat) : Int) > 0) = false := by rw [g]; rfl
   rw [e3]
   refine tR 19 rfl (tN ?_); exact tT (AS rfl ⟨_, fzO rfl⟩)
  ·have e1 : topV L = nameL.getD (bestN L 14) [] := if_neg g
   have e2 : topB L = true := by unfold topB; exact decide_eq_true g
   rw [e1, e2] at ht
   refine tS (tO ?_); refine tP (oLW rfl rfl (by simp; omega)) rfl rfl rfl rfl ?_
   refine tC rfl (by simp [Zv.closed, Aj, Ao, cLm, cLLm]) (ht) (by simp [Zv.noref, Zv.flat, norefL, norefLL, nLm, nLLm]) rfl rfl rfl rfl rfl ?_
   refine tR 5 rfl (tN (tS (tO (tR 3 rfl ?_))))
   refine tP (Bl rfl rfl (AQ (d := 0) (by omega)) rfl) rfl rfl rfl rfl ?_; refine tR 4 rfl ?_
   have e3 : decide (((L.getD (bestN L 14) 0 : Nat) : Int) > 0) = true := decide_eq_true (by omega)
   rw [e3]
   refine tR 3 rfl ?_; refine tC rfl rfl (hr) rfl rfl rfl rfl rfl rfl ?_; refine tR 1 rfl ?_
   refine tP (Bl rfl rfl (AQ (d := []) hb') rfl) rfl rfl rfl rfl ?_
   refine tR 4 rfl ?_
   have e4 : (nameL.getD (bestN L 14) [] == nameL.getD (bestN L 14) []) = true := beq_self_eq_true _
   rw [e4]
   refine tR 9 rfl (tN ?_); exact tT (AS rfl ⟨_, fzO rfl⟩)
end Go.Eng.St
namespace Go.Eng.St
open Go Go.Eng
variable [Inhabited GlobT]
attribute [local irreducible] OpR TL TD TC TS Ak
theorem best_max (L : List Nat) : ∀ i, i ≤ 14 → ∀ j, j < i → L.getD j 0 ≤ L.getD (bestN L i) 0
 | 0, _, j, h => absurd h (by omega)
 | i + 1, hi, j, h => by
   have ih := best_max L i (by omega)
   unfold bestN
   split
   ·rename_i c
    rcases Nat.lt_or_ge j i with h1 | h1
    ·exact ih j h1
    ·have : j = i := by omega
     subst this; exact c
   ·rename_i c
    rcases Nat.lt_or_ge j i with h1 | h1
    ·have := ih j h1
     omega
    ·have : j = i := by omega
     subst this; exact Nat.le_refl _
theorem rate0_ok (L : List Nat) (h : OkL L) (s : List UInt8) (hs : s ∉ nameL) : Ak APs f_stat_Stat_Rate [.agg (cl L), .str s, u6 1] (.flt .f64 0) := by
 have hl := h.1
 have hg := get_ok L h s
 have e1 : getV L s = 0 := if_neg hs
 have e2 : decide (s ∈ nameL) = false := decide_eq_false hs
 rw [e1, e2] at hg
 refine Al (af := c_stat_Stat_Rate) rfl rfl ?_
 refine tS (tO ?_); refine AH (o_boxW rfl (by simp; omega)) rfl rfl rfl rfl ?_; refine tR 1 rfl (tN ?_)
 refine tS (tO ?_); refine tP (oLW rfl rfl (by simp; omega)) rfl rfl rfl rfl ?_; refine tR 1 rfl ?_
 refine tC rfl (by simp [Zv.closed, Aj, Ao, cLm, cLLm]) (hg) (by simp [Zv.noref, Zv.flat, norefL, norefLL, nLm, nLLm]) rfl rfl rfl rfl rfl ?_
 refine tR 5 rfl (tN (tS (tO (tR 4 rfl ?_))))
 refine tP (oB (v := .flt .f64 0) rfl rfl (by kernel_rfl)) rfl rfl rfl rfl ?_
 refine tR 1 rfl (tN ?_); exact tT (AS rfl ⟨_, fzO rfl⟩)
theorem sat_best {L : List Nat} (hx : ∀ j, j < 14 → L.getD j 0 < 4611686018427387904) : ∀ i, i ≤ 14 → bestN (allL satN L L) i = bestN L i
 | 0, _ => rfl
 | i + 1, hi => by
   have ih := sat_best hx i (by omega)
   have hb := bestN_lt L i (by omega)
   have e : ∀ j, j < 14 → (allL satN L L).getD j 0 = 2 * L.getD j 0 := fun j hj => by
    have := hx j hj
    unfold allL
    rw [List.getD_eq_getElem?_getD, List.getElem?_map, List.getElem?_range hj]
    show satN _ _ = _
    unfold satN
    rw [if_neg (by omega)]
    omega
   unfold bestN
   rw [ih, e i (by omega), e _ hb]
   by_cases c : L.getD i 0 ≤ L.getD (bestN L i) 0
   ·rw [if_pos c, if_pos (by omega)]
   ·rw [if_neg c, if_neg (by omega)]
theorem sat_get {L : List Nat} (hx : ∀ j, j < 14 → L.getD j 0 < 4611686018427387904) {j : Nat} (hj : j < 14) : (allL satN L L).getD j 0 = 2 * L.getD j 0 := by
 have := hx j hj
 unfold allL
 rw [List.getD_eq_getElem?_getD, List.getElem?_map, List.getElem?_range hj]
 show satN _ _ = _
 unfold satN
 rw [if_neg (by omega)]
 omega
theorem sub_zero (L : List Nat) : allL subN L L = List.replicate 14 0 := by
 unfold allL subN
 simp only [Nat.sub_self]
 decide
theorem top_law (L : List Nat) (h : OkL L) (s : List UInt8) : Ak APs f_l34_StatTop [.agg (cl L), .str s] (.bool true) := by
 have hl := h.1
 have ho := of_ok L h
 have ht := top_ok L h
 have hn := names_ok L h
 refine Al (af := c_l34_StatTop) rfl rfl ?_
 refine tS (tO ?_); refine AH (o_boxW rfl (by simp; omega)) rfl rfl rfl rfl ?_; refine tR 1 rfl (tN ?_)
 refine tS (tS (tO (tR 2 rfl (tN ?_))))
 refine AI (t := false) rfl (fun h => nomatch h) (fun _ => ?_); refine tK (tS (tS (tO ?_)))
 refine tR 3 rfl (tN ?_)
 refine tQ rfl decide_eq_true_iff (fun _ => ?_) (fun _ => tK ?_)
 ·refine tS (tO (tR 1 rfl (tN ?_))); exact tT (AS rfl ⟨_, fzO rfl⟩)
 have hg := get_ok L h (topV L)
 have hk := get_ok L h s
 have hmv : getV L (topV L) = L.getD (bestN L 14) 0 := by
  by_cases g : L.getD (bestN L 14) 0 = 0
  ·have e1 : topV L = [] := if_pos g
   have e2 : ([] : List UInt8) ∉ nameL := by decide
   rw [e1, g]
   exact if_neg e2
  ·have e1 : topV L = nameL.getD (bestN L 14) [] := if_neg g
   rw [e1]
   exact (getV_at L (bestN_lt L 14 (by omega))).1
 have hmax : ∀ j, j < 14 → L.getD j 0 ≤ L.getD (bestN L 14) 0 := best_max L 14 (by omega)
 rw [hmv] at hg
 refine tS (tO ?_); refine tP (oLW rfl rfl (by simp; omega)) rfl rfl rfl rfl ?_
 refine tC rfl (by simp [Zv.closed, Aj, Ao, cLm, cLLm]) (ho) (by simp [Zv.noref, Zv.flat, norefL, norefLL, nLm, nLLm]) rfl rfl rfl rfl rfl ?_
 refine tR 1 rfl ?_; refine tP (AL rfl rfl rfl (by simp) (by simp; omega) (aSm (fun _ => rfl) _)) rfl rfl rfl rfl ?_
 refine tN (tS (tO ?_)); refine tP (oLW rfl rfl (by simp; omega)) rfl rfl rfl rfl ?_
 refine tC rfl (by simp [Zv.closed, Aj, Ao, cLm, cLLm]) (ht) (by simp [Zv.noref, Zv.flat, norefL, norefLL, nLm, nLLm]) rfl rfl rfl rfl rfl ?_
 refine tR 5 rfl (tN (tS (tO ?_))); refine tP (oLW rfl rfl (by simp; omega)) rfl rfl rfl rfl ?_
 refine tR 1 rfl ?_
 refine tC rfl (by simp [Zv.closed, Aj, Ao, cLm, cLLm]) (hg) (by simp [Zv.noref, Zv.flat, norefL, norefLL, nLm, nLLm]) rfl rfl rfl rfl rfl ?_
 refine tR 5 rfl (tN (tS (tS (tO ?_))))
 refine tP (oLW rfl rfl (by simp; omega)) rfl rfl rfl rfl ?_
 refine tC rfl (by simp [Zv.closed, Aj, Ao, cLm, cLLm]) (hn) (by simp [Zv.noref, Zv.flat, norefL, norefLL, nLm, nLLm]) rfl rfl rfl rfl rfl ?_
 refine tR 2 rfl (tN ?_)
 generalize hMV : L.getD (bestN L 14) 0 = MV at *
 refine tB (lST (σ := Nat) (fun i => 14 - i) (fun i => [(1, .str s), (4, .bool false), (5, .ptr 1 0 0), (6, .str (topV L)), (7, .bool (topB L)), (8, u6 MV), (37, namesV), (38, .int .i64 14), (39, .int .i64 (i : Int))])
  (fun i S => i ≤ 14 ∧ S = [some ⟨14, [cl L]⟩, some ⟨14, [cl L]⟩] ∧ ∀ j, j < i → L.getD j 0 < 4611686018427387904) 0 (by (repeat' (first | exact wN | refine wC rfl ?_))) ⟨by omega, rfl, fun j hj => absurd hj (by omega)⟩ ?_)
 rintro i S ⟨hi, rfl, hx⟩
 refine tS (tO (tR 1 rfl (tN (tS ?_))))
 refine tQ rfl decide_eq_true_iff (fun c => tK ?_) (fun c => tX ?_)
 ·have hi' : i < 14 := by omega
  have hin : i < nameL.length := hi'
  have hgi := get_ok L h (nameL.getD i [])
  obtain ⟨g1, g2⟩ := getV_at L hi'
  rw [g1, g2] at hgi
  have hm := hmax i hi'
  refine tS ?_; refine tB ?_; refine tS (tO ?_)
  refine tP (Bl rfl rfl (AQ (d := []) hin) rfl) rfl rfl rfl rfl ?_
  refine tR 2 rfl (tN (tS (tO ?_))); refine tP (oLW rfl rfl (by simp; omega)) rfl rfl rfl rfl ?_
  refine tR 1 rfl ?_
  refine tC rfl (by simp [Zv.closed, Aj, Ao, cLm, cLLm]) (hgi) (by simp [Zv.noref, Zv.flat, norefL, norefLL, nLm, nLLm]) rfl rfl rfl rfl rfl ?_
  refine tR 5 rfl (tN (tS (tO (tR 4 rfl ?_))))
  have e3 : decide (((L.getD i 0 : Nat) : Int) > ((MV : Nat) : Int)) = false := decide_eq_false (by omega)
  rw [e3]
  refine tR 3 rfl (tN ?_)
  refine tQ rfl decide_eq_true_iff (fun g => ?_) (fun g => tK ?_)
  ·have e4 : decide (((L.getD i 0 : Nat) : Int) ≤ ((MV : Nat) : Int)) = true := decide_eq_true (by omega)
   refine tS (tO (tR 4 rfl (tN ?_)))
   rw [e4]
   exact tT (AS rfl ⟨_, fzO rfl⟩)
  ·refine tO ?_; refine tP (oA (b := 1) rfl rfl (by omega)) rfl rfl rfl rfl ?_; refine tR 1 rfl (tN ?_)
   refine ⟨i + 1, by omega, by (repeat' (first | exact wN | refine wC rfl ?_)), by omega, rfl, fun j hj => ?_⟩
   rcases Nat.lt_or_ge j i with h1 | h1
   ·exact hx j h1
   ·have : j = i := by omega
    subst this; omega
 ·have : i = 14 := by omega
  subst this
  have hJ : OkL (allL satN L L) := allL_ok (fun x y hx => satN_lt hx) h
  have hj := join_ok L L h h
  have hjl := hJ.1
  have htj := top_ok _ hJ
  have eb : bestN (allL satN L L) 14 = bestN L 14 := sat_best hx 14 (by omega)
  have ej : (allL satN L L).getD (bestN L 14) 0 = 2 * MV := by rw [sat_get hx (bestN_lt L 14 (by omega)), hMV]
  have ev : topV (allL satN L L) = topV L := by
   unfold topV
   rw [eb, ej, hMV]
   by_cases g : MV = 0
   ·rw [if_pos g, if_pos (by omega)]
   ·rw [if_neg g, if_neg (by omega)]
  have eB : topB (allL satN L L) = topB L := by
   unfold topB
   rw [eb, ej, hMV]
   by_cases g : MV = 0
   ·rw [g]
   ·rw [decide_eq_true g, decide_eq_true (by omega)]
  rw [ev, eB] at htj
  have hls := less_ok L L h h
  rw [sub_zero] at hls
  have hz : OkL (List.replicate 14 0) := ⟨rfl, fun x hx => by rw [List.eq_of_mem_replicate hx]; omega⟩
  have his := is_ok _ hz
  generalize allL satN L L = J at *
  generalize topV L = tv at *
  by_cases g : MV = 0
  ·have e2 : topB L = false := by unfold topB; rw [hMV, g]; rfl
   rw [e2] at htj ⊢
   by_cases hm : s ∈ nameL
   ·have e3 : decide (s ∈ nameL) = true := decide_eq_true hm
    rw [e3] at hk
    subst g
    refine tS (tO ?_); refine tP (oLW rfl rfl (by simp; omega)) rfl rfl rfl rfl ?_
    refine tP (oLW rfl rfl (by simp; omega)) rfl rfl rfl rfl ?_
    refine tC rfl (by simp [Zv.closed, Aj, Ao, cLm, cLLm]) (hj) (by simp [Zv.noref, Zv.flat, norefL, norefLL, nLm, nLLm]) rfl rfl rfl rfl rfl ?_
    refine tC rfl (by simp [Zv.closed, Aj, Ao, cLm, cLLm]) (htj) (by simp [Zv.noref, Zv.flat, norefL, norefLL, nLm, nLLm]) rfl rfl rfl rfl rfl ?_
    refine tR 5 rfl (tN (tS (tO ?_))); refine tP (oLW rfl rfl (by simp; omega)) rfl rfl rfl rfl ?_
    refine tR 1 rfl ?_
    refine tC rfl (by simp [Zv.closed, Aj, Ao, cLm, cLLm]) (hk) (by simp [Zv.noref, Zv.flat, norefL, norefLL, nLm, nLLm]) rfl rfl rfl rfl rfl ?_
    refine tR 5 rfl (tN (tS ?_)); refine tc_drawS ?_; refine AV rfl ?_; refine dR 2 rfl (dN ?_)
    refine ⟨rfl, ?_⟩; refine Am ?_; refine tR 1 rfl (tN ?_); refine Am ?_; refine tR 1 rfl (tN ?_)
    refine AV rfl ?_; refine dR 2 rfl (dN ?_); refine ⟨rfl, ?_⟩; refine Am ?_; refine tR 1 rfl (tN ?_)
    refine Am ?_; refine tR 1 rfl (tN ?_); refine Am ?_; refine tR 1 rfl (tN ?_); refine AV rfl ?_
    rw [beq_self_eq_true tv]
    refine dR 3 rfl (dN ?_); refine ⟨rfl, ?_⟩; refine Am ?_; refine tR 1 rfl (tN ?_); refine Am ?_
    refine tR 1 rfl (tN ?_); refine Am ?_; refine tR 1 rfl (tN ?_); refine Am ?_; refine tR 1 rfl ?_
    refine tN ?_; refine Am ?_; refine tR 1 rfl (tN ?_); refine AV rfl ?_; refine dR 2 rfl (dN ?_)
    refine ⟨rfl, ?_⟩; refine Am ?_; refine tR 1 rfl (tN ?_); refine Am ?_; refine tR 1 rfl (tN ?_)
    refine Am ?_; refine tR 1 rfl (tN ?_); refine Am ?_; refine tR 1 rfl (tN ?_); refine Am ?_
    refine tR 1 rfl (tN ?_); refine ts_many ?_; refine dP rfl rfl (oLW rfl rfl (by simp; omega)) ?_
    refine dP rfl rfl (oLW rfl rfl (by simp; omega)) ?_
    refine AF rfl (by simp [Zv.closed, Aj, Ao, cLm, cLLm]) (hls) (by simp [Zv.noref, Zv.flat, norefL, norefLL, nLm, nLLm]) rfl rfl rfl rfl ?_
    refine dR 1 rfl (dN ?_); refine ⟨rfl, ?_⟩; refine Am ?_
    refine tl_callz rfl (Bv (fun n => ⟨_, fzO rfl⟩) (Bv (fun n => ⟨_, frz_view0 rfl rfl rfl⟩) frzL_nil)) (his) rfl rfl rfl rfl rfl rfl ?_
    refine tN ?_; refine Am ?_; refine tR 1 rfl (tN ?_); refine Am ?_; refine tR 1 rfl (tN ?_)
    refine ts_nil ?_; exact tT (AS rfl ⟨_, fzO rfl⟩)
   ·have e3 : decide (s ∈ nameL) = false := decide_eq_false hm
    have hr := rate0_ok L h s hm
    rw [e3] at hk
    subst g
    refine tS (tO ?_); refine tP (oLW rfl rfl (by simp; omega)) rfl rfl rfl rfl ?_
    refine tP (oLW rfl rfl (by simp; omega)) rfl rfl rfl rfl ?_
    refine tC rfl (by simp [Zv.closed, Aj, Ao, cLm, cLLm]) (hj) (by simp [Zv.noref, Zv.flat, norefL, norefLL, nLm, nLLm]) rfl rfl rfl rfl rfl ?_
    refine tC rfl (by simp [Zv.closed, Aj, Ao, cLm, cLLm]) (htj) (by simp [Zv.noref, Zv.flat, norefL, norefLL, nLm, nLLm]) rfl rfl rfl rfl rfl ?_
    refine tR 5 rfl (tN (tS (tO ?_))); refine tP (oLW rfl rfl (by simp; omega)) rfl rfl rfl rfl ?_
    refine tR 1 rfl ?_
    refine tC rfl (by simp [Zv.closed, Aj, Ao, cLm, cLLm]) (hk) (by simp [Zv.noref, Zv.flat, norefL, norefLL, nLm, nLLm]) rfl rfl rfl rfl rfl ?_
    refine tR 5 rfl (tN (tS ?_)); refine tc_drawS ?_; refine AV rfl ?_; refine dR 2 rfl (dN ?_)
    refine ⟨rfl, ?_⟩; refine Am ?_; refine tR 1 rfl (tN ?_); refine Am ?_; refine tR 1 rfl (tN ?_)
    refine AV rfl ?_; refine dR 2 rfl (dN ?_); refine ⟨rfl, ?_⟩; refine Am ?_; refine tR 1 rfl (tN ?_)
    refine Am ?_; refine tR 1 rfl (tN ?_); refine Am ?_; refine tR 1 rfl (tN ?_); refine AV rfl ?_
    rw [beq_self_eq_true tv]
    refine dR 3 rfl (dN ?_); refine ⟨rfl, ?_⟩; refine Am ?_; refine tR 1 rfl (tN ?_); refine Am ?_
    refine tR 1 rfl (tN ?_); refine Am ?_; refine tR 1 rfl (tN ?_); refine Am ?_; refine tR 1 rfl ?_
    refine tN ?_; refine Am ?_; refine tR 1 rfl (tN ?_); refine AV rfl ?_
    refine dP rfl rfl (oLW rfl rfl (by simp; omega)) ?_; refine dR 1 rfl (dN ?_); refine ⟨rfl, ?_⟩; refine Am ?_
    refine tC rfl (by simp [Zv.closed, Aj, Ao, cLm, cLLm]) (hr) (by simp [Zv.noref, Zv.flat, norefL, norefLL, nLm, nLLm]) rfl rfl rfl rfl rfl ?_
    refine tN ?_; refine Am ?_; refine tR 1 rfl (tN ?_); refine Am ?_; refine tR 1 rfl (tN ?_)
    refine Am ?_; refine tR 1 rfl (tN ?_); refine Am ?_; refine tR 1 rfl (tN ?_); refine ts_many ?_
    refine dP rfl rfl (oLW rfl rfl (by simp; omega)) ?_; refine dP rfl rfl (oLW rfl rfl (by simp; omega)) ?_
    refine AF rfl (by simp [Zv.closed, Aj, Ao, cLm, cLLm]) (hls) (by simp [Zv.noref, Zv.flat, norefL, norefLL, nLm, nLLm]) rfl rfl rfl rfl ?_
    refine dR 1 rfl (dN ?_); refine ⟨rfl, ?_⟩; refine Am ?_
    refine tl_callz rfl (Bv (fun n => ⟨_, fzO rfl⟩) (Bv (fun n => ⟨_, frz_view0 rfl rfl rfl⟩) frzL_nil)) (his) rfl rfl rfl rfl rfl rfl ?_
    refine tN ?_; refine Am ?_; refine tR 1 rfl (tN ?_); refine Am ?_; refine tR 1 rfl (tN ?_)
    refine ts_nil ?_; exact tT (AS rfl ⟨_, fzO rfl⟩)
  ·have e2 : topB L = true := by unfold topB; rw [hMV]; exact decide_eq_true g
   have e5 : decide (((MV : Nat) : Int) > 0) = true := decide_eq_true (by omega)
   rw [e2] at htj ⊢
   by_cases hm : s ∈ nameL
   ·have e3 : decide (s ∈ nameL) = true := decide_eq_true hm
    rw [e3] at hk
    refine tS (tO ?_); refine tP (oLW rfl rfl (by simp; omega)) rfl rfl rfl rfl ?_
    refine tP (oLW rfl rfl (by simp; omega)) rfl rfl rfl rfl ?_
    refine tC rfl (by simp [Zv.closed, Aj, Ao, cLm, cLLm]) (hj) (by simp [Zv.noref, Zv.flat, norefL, norefLL, nLm, nLLm]) rfl rfl rfl rfl rfl ?_
    refine tC rfl (by simp [Zv.closed, Aj, Ao, cLm, cLLm]) (htj) (by simp [Zv.noref, Zv.flat, norefL, norefLL, nLm, nLLm]) rfl rfl rfl rfl rfl ?_
    refine tR 5 rfl (tN (tS (tO ?_))); refine tP (oLW rfl rfl (by simp; omega)) rfl rfl rfl rfl ?_
    refine tR 1 rfl ?_
    refine tC rfl (by simp [Zv.closed, Aj, Ao, cLm, cLLm]) (hk) (by simp [Zv.noref, Zv.flat, norefL, norefLL, nLm, nLLm]) rfl rfl rfl rfl rfl ?_
    refine tR 5 rfl (tN (tS ?_)); refine tc_drawS ?_; refine AV rfl ?_; refine dR 2 rfl (dN ?_)
    refine ⟨rfl, ?_⟩; refine Am ?_; refine tR 1 rfl (tN ?_); refine Am ?_; refine tR 1 rfl (tN ?_)
    refine AV rfl ?_; refine dR 2 rfl (dN ?_); refine ⟨rfl, ?_⟩; refine Am ?_; refine tR 1 rfl (tN ?_)
    refine Am ?_; refine tR 1 rfl (tN ?_); refine Am ?_; refine tR 1 rfl (tN ?_); refine AV rfl ?_
    rw [beq_self_eq_true tv]
    refine dR 3 rfl (dN ?_); refine ⟨rfl, ?_⟩; refine Am ?_; refine tR 1 rfl (tN ?_); refine Am ?_
    refine tR 1 rfl (tN ?_); refine Am ?_; refine tR 1 rfl (tN ?_); refine Am ?_
    rw [e5]
    refine tR 1 rfl (tN ?_); refine Am ?_; refine tR 1 rfl (tN ?_); refine AV rfl ?_; refine dR 2 rfl ?_
    refine dN ?_; refine ⟨rfl, ?_⟩; refine Am ?_; refine tR 1 rfl (tN ?_); refine Am ?_; refine tR 1 rfl ?_
    refine tN ?_; refine Am ?_; refine tR 1 rfl (tN ?_); refine Am ?_; refine tR 1 rfl (tN ?_)
    refine Am ?_; refine tR 1 rfl (tN ?_); refine ts_many ?_; refine dP rfl rfl (oLW rfl rfl (by simp; omega)) ?_
    refine dP rfl rfl (oLW rfl rfl (by simp; omega)) ?_
    refine AF rfl (by simp [Zv.closed, Aj, Ao, cLm, cLLm]) (hls) (by simp [Zv.noref, Zv.flat, norefL, norefLL, nLm, nLLm]) rfl rfl rfl rfl ?_
    refine dR 1 rfl (dN ?_); refine ⟨rfl, ?_⟩; refine Am ?_
    refine tl_callz rfl (Bv (fun n => ⟨_, fzO rfl⟩) (Bv (fun n => ⟨_, frz_view0 rfl rfl rfl⟩) frzL_nil)) (his) rfl rfl rfl rfl rfl rfl ?_
    refine tN ?_; refine Am ?_; refine tR 1 rfl (tN ?_); refine Am ?_; refine tR 1 rfl (tN ?_)
    refine ts_nil ?_; exact tT (AS rfl ⟨_, fzO rfl⟩)
   ·have e3 : decide (s ∈ nameL) = false := decide_eq_false hm
    have hr := rate0_ok L h s hm
    rw [e3] at hk
    refine tS (tO ?_); refine tP (oLW rfl rfl (by simp; omega)) rfl rfl rfl rfl ?_
    refine tP (oLW rfl rfl (by simp; omega)) rfl rfl rfl rfl ?_
    refine tC rfl (by simp [Zv.closed, Aj, Ao, cLm, cLLm]) (hj) (by simp [Zv.noref, Zv.flat, norefL, norefLL, nLm, nLLm]) rfl rfl rfl rfl rfl ?_
    refine tC rfl (by simp [Zv.closed, Aj, Ao, cLm, cLLm]) (htj) (by simp [Zv.noref, Zv.flat, norefL, norefLL, nLm, nLLm]) rfl rfl rfl rfl rfl ?_
    refine tR 5 rfl (tN (tS (tO ?_))); refine tP (oLW rfl rfl (by simp; omega)) rfl rfl rfl rfl ?_
    refine tR 1 rfl ?_
    refine tC rfl (by simp [Zv.closed, Aj, Ao, cLm, cLLm]) (hk) (by simp [Zv.noref, Zv.flat, norefL, norefLL, nLm, nLLm]) rfl rfl rfl rfl rfl ?_
    refine tR 5 rfl (tN (tS ?_)); refine tc_drawS ?_; refine AV rfl ?_; refine dR 2 rfl (dN ?_)
    refine ⟨rfl, ?_⟩; refine Am ?_; refine tR 1 rfl (tN ?_); refine Am ?_; refine tR 1 rfl (tN ?_)
    refine AV rfl ?_; refine dR 2 rfl (dN ?_); refine ⟨rfl, ?_⟩; refine Am ?_; refine tR 1 rfl (tN ?_)
    refine Am ?_; refine tR 1 rfl (tN ?_); refine Am ?_; refine tR 1 rfl (tN ?_); refine AV rfl ?_
    rw [beq_self_eq_true tv]
    refine dR 3 rfl (dN ?_); refine ⟨rfl, ?_⟩; refine Am ?_; refine tR 1 rfl (tN ?_); refine Am ?_
    refine tR 1 rfl (tN ?_); refine Am ?_; refine tR 1 rfl (tN ?_); refine Am ?_
    rw [e5]
    refine tR 1 rfl (tN ?_); refine Am ?_; refine tR 1 rfl (tN ?_); refine AV rfl ?_
    refine dP rfl rfl (oLW rfl rfl (by simp; omega)) ?_; refine dR 1 rfl (dN ?_); refine ⟨rfl, ?_⟩; refine Am ?_
    refine tC rfl (by simp [Zv.closed, Aj, Ao, cLm, cLLm]) (hr) (by simp [Zv.noref, Zv.flat, norefL, norefLL, nLm, nLLm]) rfl rfl rfl rfl rfl ?_
    refine tN ?_; refine Am ?_; refine tR 1 rfl (tN ?_); refine Am ?_; refine tR 1 rfl (tN ?_)
    refine Am ?_; refine tR 1 rfl (tN ?_); refine Am ?_; refine tR 1 rfl (tN ?_); refine ts_many ?_
    refine dP rfl rfl (oLW rfl rfl (by simp; omega)) ?_; refine dP rfl rfl (oLW rfl rfl (by simp; omega)) ?_
    refine AF rfl (by simp [Zv.closed, Aj, Ao, cLm, cLLm]) (hls) (by simp [Zv.noref, Zv.flat, norefL, norefLL, nLm, nLLm]) rfl rfl rfl rfl ?_
    refine dR 1 rfl (dN ?_); refine ⟨rfl, ?_⟩; refine Am ?_
    refine tl_callz rfl (Bv (fun n => ⟨_, fzO rfl⟩) (Bv (fun n => ⟨_, frz_view0 rfl rfl rfl⟩) frzL_nil)) (his) rfl rfl rfl rfl rfl rfl ?_
    refine tN ?_; refine Am ?_; refine tR 1 rfl (tN ?_); refine Am ?_; refine tR 1 rfl (tN ?_)
    refine ts_nil ?_; exact tT (AS rfl ⟨_, fzO rfl⟩)
end Go.Eng.St
namespace Go.Eng.St
open Go Go.Eng Go.RowKit Go.ChangeShapes Go.WideShapes
variable [Inhabited GlobT]
theorem open_agg_rep {H : Type} {enc : TypeId × Value → H} {P : Program} {r : Reach} {b0 : Nat} {t : TypeId} {fs : Array Field} {W : World} {sp : Nat → Bool} {v : Value} {d : DataW H} {ps : List MemPlace} (dd : Nat) (ss : List Shp) (ht : P.underlying t = some (.struct fs)) (hs : shapeT P dd t = some ss)
 (hval : Value.okWide P W r b0 t v) (h : DataW.Trod enc P W 0 sp true t v d ps) : ∃ xs, Rep [] (fun _ => False) W (.agg xs) v ∧ ShpAs ss xs := by
 obtain ⟨cs, rfl, _⟩ := okWide_struct ht hval
 obtain ⟨fuel, hf⟩ := h
 obtain ⟨xs, h1, h2⟩ := opens_t dd fuel t _ _ _ hs hf
 have h1 : As [] (fun _ => False) W xs cs.toList := by simpa [Value.cells] using h1
 refine ⟨xs, ⟨cs, rfl, by simpa using h1.1.symm, repL_of _ _ fun i a ha => ?_⟩, h2⟩
 have hi : i < cs.toList.length := by
  rw [← h1.1]; exact (List.getElem?_eq_some_iff.1 ha).1
 refine ⟨cs.toList[i], by simp at hi ⊢, h1.2 i a _ ha (List.getElem?_eq_getElem hi)⟩
theorem nats_of : ∀ (n : Nat) (xs : List Zv), ShpAs (List.replicate n (.int .u64)) xs → ∃ L : List Nat, xs = L.map (fun x : Nat => Zv.int .u64 (x : Int)) ∧ L.length = n ∧ ∀ x ∈ L, x < 18446744073709551616
 | 0, xs, h => by
   simp only [List.replicate, ShpAs] at h
   exact ⟨[], by simpa using h, rfl, fun x hx => by cases hx⟩
 | n + 1, xs, h => by
   simp only [List.replicate_succ, ShpAs, ShpA] at h
   obtain ⟨_, rest, rfl, ⟨z, rfl, hz⟩, h⟩ := h
   obtain ⟨L, rfl, hl, hx⟩ := nats_of n rest h
   have hz' : 0 ≤ z ∧ z < 18446744073709551616 := by
    simp [Lit.wf, IntKind.min, IntKind.max, IntKind.signed, IntKind.bits] at hz
    omega
   refine ⟨z.toNat :: L, ?_, by simp [hl], ?_⟩
   ·simp only [List.map_cons, List.cons.injEq, and_true]
    rw [Int.toNat_of_nonneg hz'.1]
   ·intro x hx'
    rcases List.mem_cons.1 hx' with rfl | h'
    ·omega
    ·exact hx x h'
end Go.Eng.St
