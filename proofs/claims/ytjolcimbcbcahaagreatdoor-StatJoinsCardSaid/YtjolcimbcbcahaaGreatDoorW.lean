/- The law's functions are walked: what each answers; no condition. -/
import Derived.Test.YtjolcimbcbcahaaGreatDoorC1
import Derived.Test.YtjolcimbcbcahaaGreatDoorE6
import Derived.Test.YtjolcimbcbcahaaGreatDoorV
import Derived.KernelRfl
import Derived.Test.YtjolcimbcbcahaaGreatDoorE4
set_option linter.unusedSectionVars false
set_option linter.unusedVariables false
set_option linter.unusedSimpArgs false
set_option linter.unnecessarySimpa false
namespace Go.Eng.St
abbrev f_l34_StatJoins:Nat:=9
abbrev Aub:Nat:=50
abbrev ApO:Nat:=54
abbrev Aes:Nat:=55
abbrev f_stat_Stat_Join:Nat:=57
abbrev Azr:Nat:=56
abbrev f_stat_Stat_Less:Nat:=58
abbrev Afv:Nat:=52
abbrev BaO:Nat:=59
abbrev ApL:Nat:=82
abbrev Adf:Nat:=63
abbrev Abu:Nat:=51
abbrev AgM:Nat:=67
abbrev f_word_Sub:Nat:=135
abbrev AhX:Nat:=134
abbrev Abz:Nat:=132
abbrev AwC:Nat:=49
abbrev AgL:Nat:=133
abbrev Agn:Nat:=136
abbrev AeP:Nat:=137
end Go.Eng.St
namespace Go.Eng.St
open Go Go.Eng
def d_l34_StatJoins_1:Aam := .draw [mv 59 11,mv 60 59,ig 61 (.move (.t 7)) 60 true,⟨(some 62),(.move (.t 12)),some (60,true),[2]⟩,ig 63 (.iaddr 1 (.t 61) (.t 62)) 60 true,ig 64 (.load false 1 (.t 63)) 60 true,⟨(some 65),(.move (.t 8)),some (60,true),(ub 2 4)⟩,⟨(some 66),(.move (.t 12)),some (60,true),(ub 2 5)⟩,⟨(some 67),(.iaddr 1 (.t 65) (.t 66)),some (60,true),(ub 2 4)⟩,⟨(some 68),(.load false 1 (.t 67)),some (60,true),(ub 2 4)⟩,ig 69 (.bin .add (.t 64) (.t 68)) 60 true,⟨(some 70),(.move (.t 7)),some (60,true),(ub 2 9)⟩,⟨(some 71),(.move (.t 12)),some (60,true),(ub 2 10)⟩,⟨(some 72),(.iaddr 1 (.t 70) (.t 71)),some (60,true),(ub 2 9)⟩,⟨(some 73),(.load false 1 (.t 72)),some (60,true),(ub 2 9)⟩,ig 74 (.bin .geq (.t 69) (.t 73)) 60 true,i1 75 (.pick (.t 60) (.t 74) (.c (.bool false))),mv 11 75]
def d_l34_StatJoins_2:Aam := .seq (.draw [mv 42 10,mu 43 7 [0],mu 44 12 [0,1],iu 45 (.iaddr 1 (.t 43) (.t 44)) [0],iu 46 (.load false 1 (.t 45)) [0],mu 47 7 (ur 5),mu 48 12 (ur 6),iu 49 (.iaddr 1 (.t 47) (.t 48)) (ur 5),iu 50 (.load false 1 (.t 49)) (ur 5),mu 51 8 (ur 9),mu 52 12 (ur 10),iu 53 (.iaddr 1 (.t 51) (.t 52)) (ur 9),iu 54 (.load false 1 (.t 53)) (ur 9),iu 55 (.minI [(.t 50),(.t 54)]) (ur 5),iu 56 (.bin .sub (.t 46) (.t 55)) [0],iu 57 (.buildSlice [(.int .u64 0)] 1 1 [(0,(.t 56))]) [0],i1 58 (.append 1 8 (.t 42) (.t 57)),mv 10 58]) (d_l34_StatJoins_1)
def d_l34_StatJoins_3:Aam := .seq (.draw [mv 30 9,mu 31 7 [0],mu 32 12 [0,1],iu 33 (.iaddr 1 (.t 31) (.t 32)) [0],iu 34 (.load false 1 (.t 33)) [0],mu 35 8 (ur 5),mu 36 12 (ur 6),iu 37 (.iaddr 1 (.t 35) (.t 36)) (ur 5),iu 38 (.load false 1 (.t 37)) (ur 5),iu 39 (cf Aes [(.t 34),(.t 38)]) [0],iu 40 (.buildSlice [(.int .u64 0)] 1 1 [(0,(.t 39))]) [0],i1 41 (.append 1 8 (.t 30) (.t 40)),mv 9 41]) (d_l34_StatJoins_2)
def d_l34_StatJoins_4:Aam := .seq (.cond (.t 28) (.skip) (.exit 0)) (.seq (.block 1 (.seq (.ops [mv 29 27,mv 12 29]) (d_l34_StatJoins_3))) (.ops [i1 76 (.bin .add (.t 27) (k6 1)),mv 27 76]))
def d_l34_StatJoins_5:Aam := .seq (.ops [mv 25 7,i1 26 (.len false (.t 25)),i1 27 (.move (k6 0))]) (.block 0 (.loop (.seq (.ops [i1 28 (.bin .lss (.t 27) (.t 26))]) (d_l34_StatJoins_4))))
def d_l34_StatJoins_6:Aam := .seq (.drawS [[i1 77 (.load true 14 (.t 5)),iu 78 (.load true 14 (.t 6)) [0],i1 79 (cf f_stat_Stat_Join [(.t 77),(.t 78)]),mu 80 9 [0,1,2]],[i1 81 (cf Azr [(.t 79),(.t 80)])],[i1 82 (.un .not (.t 81))],[mv 83 82],[ig 84 (.load true 14 (.t 5)) 83 false,⟨(some 85),(.load true 14 (.t 6)),some (83,false),[7]⟩,ig 86 (cf f_stat_Stat_Less [(.t 84),(.t 85)]) 83 false,⟨(some 87),(.move (.t 10)),some (83,false),[7,8,9]⟩],[ig 88 (cf Azr [(.t 86),(.t 87)]) 83 false],[ig 89 (.un .not (.t 88)) 83 false],[i1 90 (.pick (.t 83) (.c (.bool true)) (.t 89))],[mv 91 90],[ig 92 (.load true 14 (.t 6)) 91 false,⟨(some 93),(.load true 14 (.t 5)),some (91,false),[15]⟩,ig 94 (cf f_stat_Stat_Join [(.t 92),(.t 93)]) 91 false,⟨(some 95),(.move (.t 9)),some (91,false),[15,16,17]⟩],[ig 96 (cf Azr [(.t 94),(.t 95)]) 91 false],[ig 97 (.un .not (.t 96)) 91 false],[i1 98 (.pick (.t 91) (.c (.bool true)) (.t 97))],[mv 99 98],[ig 100 (.move (.t 11)) 99 false],[ig 101 (.move (.t 100)) 99 false],[ig 102 (.load true 14 (.t 5)) 101 true,⟨(some 103),(.load true 14 (.t 6)),some (101,true),[25]⟩,ig 104 (cf f_stat_Stat_Join [(.t 102),(.t 103)]) 101 true,⟨(some 105),(.load true 14 (.t 6)),some (101,true),[25,26,27]⟩,ig 106 (cf f_stat_Stat_Less [(.t 104),(.t 105)]) 101 true,⟨(some 107),(.move (.t 7)),some (101,true),(ub 25 5)⟩],[ig 108 (cf Azr [(.t 106),(.t 107)]) 101 true],[ig 109 (.un .not (.t 108)) 101 true],[ig 110 (.pick (.t 101) (.t 109) (.c (.bool false))) 99 false],[i1 111 (.pick (.t 99) (.c (.bool true)) (.t 110))]]) (.cond (.t 111) (.seq (.ops [i1 4 (.move (.c (.bool false)))]) (.ret)) (.skip))
def d_l34_StatJoins_7:Aam := .seq (.ops [mv 124 13,mv 125 13,i1 126 (.bin .neq (.t 124) (.t 125)),mv 127 126,ig 128 (.move (.t 14)) 127 true,ig 129 (.move (.t 14)) 127 true,ig 130 (.bin .neq (.t 128) (.t 129)) 127 true,i1 131 (.pick (.t 127) (.t 130) (.c (.bool false))),mv 4 131]) (.ret)
def d_l34_StatJoins_8:Aam := .seq (.ops [i1 116 (.faddr 9 (.t 2)),i1 117 (.load false 1 (.t 116)),i1 118 (.bin .eql (.t 117) (.c (.int .u64 0))),mv 119 118,ig 120 (.faddr 10 (.t 2)) 119 true,ig 121 (.load false 1 (.t 120)) 119 true,ig 122 (.bin .eql (.t 121) (.c (.int .u64 0))) 119 true,i1 123 (.pick (.t 119) (.t 122) (.c (.bool false)))]) (.cond (.t 123) (d_l34_StatJoins_7) (.skip))
def d_l34_StatJoins_9:Aam := .seq (.ops [mv 132 13,mv 133 14,i1 134 (.bin .add (.t 132) (.t 133)),i1 135 (.bin .sub (.t 134) (.c (.flt .f64 4607182418800017408))),i1 136 (cf BaO [(.t 135)]),i1 137 (.bin .lss (.t 136) (.c (.flt .f64 4427486594234968593))),mv 138 137,ig 139 (.move (.t 13)) 138 true,ig 140 (.bin .geq (.t 139) (.c (.flt .f64 0))) 138 true,i1 141 (.pick (.t 138) (.t 140) (.c (.bool false))),mv 142 141,ig 143 (.move (.t 13)) 142 true,ig 144 (.bin .leq (.t 143) (.c (.flt .f64 4607182418800017408))) 142 true,i1 145 (.pick (.t 142) (.t 144) (.c (.bool false))),mv 4 145]) (.ret)
def d_l34_StatJoins_10:Aam := .seq (.drawS [[i1 112 (.load true 14 (.t 5)),i1 113 (cf Afv [(.t 112),(.c (.str [115,101,110,116])),(.c (.str [108,111,115,116]))]),iu 114 (.load true 14 (.t 5)) [0,1]],[i1 115 (cf Afv [(.t 114),(.c (.str [108,111,115,116])),(.c (.str [115,101,110,116]))])],[mv 13 113],[mv 14 115]]) (.seq (d_l34_StatJoins_8) (d_l34_StatJoins_9))
def d_l34_StatJoins_11:Aam := .seq (.ops [i1 9 (.move (.c .nils)),i1 10 (.move (.c .nils))]) (.seq (.ops [i1 11 (.move (.c (.bool true)))]) (.seq (d_l34_StatJoins_5) (.seq (d_l34_StatJoins_6) (d_l34_StatJoins_10))))
def d_l34_StatJoins_12:Aam := .seq (.drawS [[i1 21 (.load true 14 (.t 2)),i1 22 (cf ApO [(.t 21)]),iu 23 (.load true 14 (.t 3)) [0,1]],[i1 24 (cf ApO [(.t 23)])],[mv 7 22],[mv 8 24]]) (d_l34_StatJoins_11)
def d_l34_StatJoins_13:Aam := .seq (.draw [i1 17 (.load true 14 (.t 2)),i1 18 (cf Aub [(.t 17)]),iu 19 (.load true 14 (.t 3)) [0,1],i1 20 (cf Aub [(.t 19)]),iu 5 (.alloc (zs .u64 14)) (ur 4),iu 6 (.alloc (zs .u64 14)) (ur 5),i0 (.store 14 (.t 5) (.t 18)),i0 (.store 14 (.t 6) (.t 20))]) (d_l34_StatJoins_12)
def d_l34_StatJoins_14:Aam := .seq (.seq (.ops [i1 15 (cf AwC []),i1 16 (.un .not (.t 15))]) (.cond (.t 16) (.seq (.ops [i1 4 (.move (.c (.bool false)))]) (.ret)) (.skip))) (d_l34_StatJoins_13)
def c_l34_StatJoins:AFunc:=⟨2,146,[.tmp 4],
 .seq (.ops [i1 2 (.box 14 (.t 0)),i1 3 (.box 14 (.t 1)),i1 4 (.move (.c (.bool false)))]) (d_l34_StatJoins_14)⟩
def AwE:Aam := .seq (.ops [i1 3 (.faddr 0 (.t 1)),i1 4 (.load false 1 (.t 3)),i1 5 (.faddr 1 (.t 1)),i1 6 (.load false 1 (.t 5)),i1 7 (.faddr 2 (.t 1)),i1 8 (.load false 1 (.t 7)),i1 9 (.faddr 3 (.t 1)),i1 10 (.load false 1 (.t 9)),i1 11 (.faddr 4 (.t 1)),i1 12 (.load false 1 (.t 11)),i1 13 (.faddr 5 (.t 1)),i1 14 (.load false 1 (.t 13)),i1 15 (.faddr 6 (.t 1)),i1 16 (.load false 1 (.t 15)),i1 17 (.faddr 7 (.t 1)),i1 18 (.load false 1 (.t 17)),i1 19 (.faddr 8 (.t 1)),i1 20 (.load false 1 (.t 19)),i1 21 (.faddr 9 (.t 1)),i1 22 (.load false 1 (.t 21)),i1 23 (.faddr 10 (.t 1)),i1 24 (.load false 1 (.t 23)),i1 25 (.faddr 11 (.t 1)),i1 26 (.load false 1 (.t 25)),i1 27 (.faddr 12 (.t 1)),i1 28 (.load false 1 (.t 27)),i1 29 (.faddr 13 (.t 1)),i1 30 (.load false 1 (.t 29)),i1 31 (.build (zs .u64 14) [((0,1),(.t 4)),((1,1),(.t 6)),((2,1),(.t 8)),((3,1),(.t 10)),((4,1),(.t 12)),((5,1),(.t 14)),((6,1),(.t 16)),((7,1),(.t 18)),((8,1),(.t 20)),((9,1),(.t 22)),((10,1),(.t 24)),((11,1),(.t 26)),((12,1),(.t 28)),((13,1),(.t 30))]),i1 32 (.build (zs .u64 14) [((0,14),(.t 31))]),i0 (.store 14 (.t 2) (.t 32))]) (.ret)
def AnW:AFunc:=⟨1,33,[.cell 2 true 14],
 .seq (.ops [i1 1 (.box 14 (.t 0)),i1 2 (.alloc (zs .u64 14))]) (AwE)⟩
def AuT:Aam := .seq (.ops [i1 3 (.faddr 0 (.t 1)),i1 4 (.load false 1 (.t 3)),i1 5 (.faddr 1 (.t 1)),i1 6 (.load false 1 (.t 5)),i1 7 (.faddr 2 (.t 1)),i1 8 (.load false 1 (.t 7)),i1 9 (.faddr 3 (.t 1)),i1 10 (.load false 1 (.t 9)),i1 11 (.faddr 4 (.t 1)),i1 12 (.load false 1 (.t 11)),i1 13 (.faddr 5 (.t 1)),i1 14 (.load false 1 (.t 13)),i1 15 (.faddr 6 (.t 1)),i1 16 (.load false 1 (.t 15)),i1 17 (.faddr 7 (.t 1)),i1 18 (.load false 1 (.t 17)),i1 19 (.faddr 8 (.t 1)),i1 20 (.load false 1 (.t 19)),i1 21 (.faddr 9 (.t 1)),i1 22 (.load false 1 (.t 21)),i1 23 (.faddr 10 (.t 1)),i1 24 (.load false 1 (.t 23)),i1 25 (.faddr 11 (.t 1)),i1 26 (.load false 1 (.t 25)),i1 27 (.faddr 12 (.t 1)),i1 28 (.load false 1 (.t 27)),i1 29 (.faddr 13 (.t 1)),i1 30 (.load false 1 (.t 29)),i1 31 (.buildSlice [(.int .u64 0)] 1 14 [(0,(.t 4)),(1,(.t 6)),(2,(.t 8)),(3,(.t 10)),(4,(.t 12)),(5,(.t 14)),(6,(.t 16)),(7,(.t 18)),(8,(.t 20)),(9,(.t 22)),(10,(.t 24)),(11,(.t 26)),(12,(.t 28)),(13,(.t 30))]),mv 2 31]) (.ret)
def AkV:AFunc:=⟨1,32,[.tmp 2],
 .seq (.ops [i1 1 (.box 14 (.t 0)),i1 2 (.move (.c .nils))]) (AuT)⟩
def Asc:Aam := .seq (.ops [mv 5 0,mv 6 1,i1 7 (.bin .add (.t 5) (.t 6)),mv 8 0,i1 9 (.bin .lss (.t 7) (.t 8))]) (.cond (.t 9) (.seq (.ops [i1 4 (.move (.c (.int .u64 18446744073709551615)))]) (.ret)) (.skip))
def AiD:AFunc:=⟨2,13,[.tmp 4],
 .seq (.ops [i1 4 (.move (.c (.int .u64 0)))]) (.seq (Asc) (.seq (.ops [mv 10 0,mv 11 1,i1 12 (.bin .add (.t 10) (.t 11)),mv 4 12]) (.ret)))⟩
def d_stat_Stat_Join_1:Aam := .ops [mv 13 5,mv 14 5,i1 15 (.faddr 0 (.t 2)),i1 16 (.iaddrArr 14 1 (.t 15) (.t 14)),i1 17 (.load false 1 (.t 16)),mv 18 6,i1 19 (cf ApL [(.t 17),(.t 18)]),i1 20 (.faddr 0 (.t 2)),i1 21 (.iaddrArr 14 1 (.t 20) (.t 13)),i0 (.store 1 (.t 21) (.t 19))]
def d_stat_Stat_Join_2:Aam := .seq (.block 1 (.seq (.ops [mv 11 9,i1 12 (.idxArr false 14 1 (.t 8) (.t 9)),mv 5 11,mv 6 12]) (d_stat_Stat_Join_1))) (.ops [i1 22 (.bin .add (.t 9) (k6 1)),mv 9 22])
def d_stat_Stat_Join_3:Aam := .seq (.ops [i1 7 (.faddr 0 (.t 3)),i1 8 (.load true 14 (.t 7)),i1 9 (.move (k6 0))]) (.block 0 (.loop (.seq (.ops [i1 10 (.bin .lss (.t 9) (k6 14))]) (.seq (.cond (.t 10) (.skip) (.exit 0)) (d_stat_Stat_Join_2)))))
def c_stat_Stat_Join:AFunc:=⟨2,24,[.cell 4 true 14],
 .seq (.ops [i1 2 (.box 14 (.t 0)),i1 3 (.box 14 (.t 1)),i1 4 (.alloc (zs .u64 14))]) (.seq (d_stat_Stat_Join_3) (.seq (.ops [i1 23 (.load true 14 (.t 2)),i0 (.store 14 (.t 4) (.t 23))]) (.ret)))⟩
def Bbh:Aam := .seq (.ops [mv 25 9,i1 26 (.un .not (.t 25)),mv 27 26,ig 28 (.move (.t 8)) 27 false,ig 29 (.move (.t 1)) 27 false,ig 30 (.move (.t 6)) 27 false,ig 31 (.iaddr 1 (.t 29) (.t 30)) 27 false,ig 32 (.load false 1 (.t 31)) 27 false,ig 33 (.bin .neq (.t 28) (.t 32)) 27 false,i1 34 (.pick (.t 27) (.c (.bool true)) (.t 33))]) (.cond (.t 34) (.seq (.ops [i1 4 (.move (.c (.bool false)))]) (.ret)) (.skip))
def Bbg:Aam := .seq (.draw [mv 35 1,mu 36 6 [0],i1 37 (.iaddr 1 (.t 35) (.t 36)),i1 38 (.load false 1 (.t 37)),mu 39 1 (ur 4),mu 40 5 (ur 5),iu 41 (.iaddr 1 (.t 39) (.t 40)) (ur 4),iu 42 (.load false 1 (.t 41)) (ur 4),i1 43 (.bin .gtr (.t 38) (.t 42))]) (.cond (.t 43) (.ops [mv 44 6,mv 5 44]) (.skip))
def Bbf:Aam := .seq (.ops [i1 20 (.load true 14 (.t 2)),mv 21 7,i1 22 (cf Abu [(.t 20),(.t 21)]),mv 19 22,i1 23 (.extract (.t 19) 0),i1 24 (.extract (.t 19) 1),mv 8 23,mv 9 24]) (.seq (Bbh) (Bbg))
def Bbe:Aam := .seq (.block 1 (.seq (.ops [mv 16 14,i1 17 (.iaddr 1 (.t 12) (.t 14)),i1 18 (.load false 1 (.t 17)),mv 6 16,mv 7 18]) (Bbf))) (.ops [i1 45 (.bin .add (.t 14) (k6 1)),mv 14 45])
def Bbd:Aam := .seq (.ops [i1 12 (cf Adf []),i1 13 (.len false (.t 12)),i1 14 (.move (k6 0))]) (.block 0 (.loop (.seq (.ops [i1 15 (.bin .lss (.t 14) (.t 13))]) (.seq (.cond (.t 15) (.skip) (.exit 0)) (Bbe)))))
def Bbc:Aam := .seq (.ops [mv 51 11,mv 52 1,mv 53 5,i1 54 (.iaddr 1 (.t 52) (.t 53)),i1 55 (.load false 1 (.t 54)),i1 56 (.bin .gtr (.t 55) (.c (.int .u64 0))),i1 57 (.eqB false (.t 51) (.t 56)),mv 58 57,ig 59 (.move (.t 11)) 58 true,ig 60 (.move (.t 59)) 58 true,ig 61 (.move (.t 10)) 60 true,ig 62 (cf Adf []) 60 true,ig 63 (.move (.t 5)) 60 true,ig 64 (.iaddr 1 (.t 62) (.t 63)) 60 true,ig 65 (.load false 1 (.t 64)) 60 true,ig 66 (.bin .eql (.t 61) (.t 65)) 60 true,ig 67 (.pick (.t 60) (.t 66) (.c (.bool false))) 58 true,ig 68 (.move (.t 67)) 58 true,ig 69 (.move (.t 11)) 68 false,ig 70 (.un .not (.t 69)) 68 false,ig 71 (.move (.t 70)) 68 false,ig 72 (.move (.t 10)) 71 true,ig 73 (.bin .eql (.t 72) (.c (.str []))) 71 true,ig 74 (.pick (.t 71) (.t 73) (.c (.bool false))) 68 false,ig 75 (.pick (.t 68) (.c (.bool true)) (.t 74)) 58 true,i1 76 (.pick (.t 58) (.t 75) (.c (.bool false))),mv 4 76]) (.ret)
def Bbb:Aam := .seq (.ops [i1 47 (.load true 14 (.t 2)),i1 48 (cf AgM [(.t 47)]),mv 46 48,i1 49 (.extract (.t 46) 0),i1 50 (.extract (.t 46) 1),mv 10 49,mv 11 50]) (Bbc)
def Asw:AFunc:=⟨2,77,[.tmp 4],
 .seq (.ops [i1 2 (.box 14 (.t 0)),i1 4 (.move (.c (.bool false)))]) (.seq (.ops [i1 5 (.move (k6 0))]) (.seq (Bbd) (Bbb)))⟩
def d_stat_Stat_Less_1:Aam := .ops [mv 13 5,mv 14 5,i1 15 (.faddr 0 (.t 2)),i1 16 (.iaddrArr 14 1 (.t 15) (.t 14)),i1 17 (.load false 1 (.t 16)),mv 18 6,i1 19 (cf f_word_Sub [(.t 17),(.t 18)]),i1 20 (.faddr 0 (.t 2)),i1 21 (.iaddrArr 14 1 (.t 20) (.t 13)),i0 (.store 1 (.t 21) (.t 19))]
def d_stat_Stat_Less_2:Aam := .seq (.block 1 (.seq (.ops [mv 11 9,i1 12 (.idxArr false 14 1 (.t 8) (.t 9)),mv 5 11,mv 6 12]) (d_stat_Stat_Less_1))) (.ops [i1 22 (.bin .add (.t 9) (k6 1)),mv 9 22])
def d_stat_Stat_Less_3:Aam := .seq (.ops [i1 7 (.faddr 0 (.t 3)),i1 8 (.load true 14 (.t 7)),i1 9 (.move (k6 0))]) (.block 0 (.loop (.seq (.ops [i1 10 (.bin .lss (.t 9) (k6 14))]) (.seq (.cond (.t 10) (.skip) (.exit 0)) (d_stat_Stat_Less_2)))))
def c_stat_Stat_Less:AFunc:=⟨2,24,[.cell 4 true 14],
 .seq (.ops [i1 2 (.box 14 (.t 0)),i1 3 (.box 14 (.t 1)),i1 4 (.alloc (zs .u64 14))]) (.seq (d_stat_Stat_Less_3) (.seq (.ops [i1 23 (.load true 14 (.t 2)),i0 (.store 14 (.t 4) (.t 23))]) (.ret)))⟩
def Aid:Aam := .seq (.ops [i1 18 (.load true 14 (.t 3)),mv 19 2,i1 20 (cf Abu [(.t 18),(.t 19)]),mv 17 20,i1 21 (.extract (.t 17) 0),i1 22 (.extract (.t 17) 1),mv 9 21,mv 10 22]) (.seq (.ops [mv 23 7,mv 24 9,i1 25 (cf AhX [(.t 23),(.t 24)]),mv 6 25]) (.ret))
def Aic:Aam := .seq (.ops [i1 12 (.load true 14 (.t 3)),mv 13 1,i1 14 (cf Abu [(.t 12),(.t 13)]),mv 11 14,i1 15 (.extract (.t 11) 0),i1 16 (.extract (.t 11) 1),mv 7 15,mv 8 16]) (Aid)
def Adk:AFunc:=⟨3,26,[.tmp 6],
 .seq (.ops [i1 3 (.box 14 (.t 0)),i1 6 (.move (.c (.flt .f64 0)))]) (Aic)⟩
def Aqa:AFunc:=⟨1,7,[.tmp 2],
 .seq (.ops [i1 2 (.move (.c (.flt .f64 0)))]) (.seq (.ops [mv 3 0,i1 4 (cf AeP [(.t 3)]),i1 5 (.bin .andNot (.t 4) (.c (.int .u64 9223372036854775808))),i1 6 (cf Agn [(.t 5)]),mv 2 6]) (.ret))⟩
def Auw:Aam := .seq (.ops [mv 5 1,mv 6 0,i1 7 (.bin .sub (.c (.int .u64 18446744073709551615)) (.t 6)),i1 8 (.bin .gtr (.t 5) (.t 7))]) (.cond (.t 8) (.seq (.ops [i1 4 (.move (.c (.int .u64 18446744073709551615)))]) (.ret)) (.skip))
def AkQ:AFunc:=⟨2,12,[.tmp 4],
 .seq (.ops [i1 4 (.move (.c (.int .u64 0)))]) (.seq (Auw) (.seq (.ops [mv 9 0,mv 10 1,i1 11 (.bin .add (.t 9) (.t 10)),mv 4 11]) (.ret)))⟩
def ArA:Aam := .seq (.ops [i1 1 (.buildSlice [(.str [])] 1 14 [(0,(.c (.str [111,112,101,110,101,100]))),(1,(.c (.str [102,117,108,108]))),(2,(.c (.str [114,101,102,117,115,101,100]))),(3,(.c (.str [98,97,100]))),(4,(.c (.str [117,110,107,110,111,119,110]))),(5,(.c (.str [101,109,112,116,121]))),(6,(.c (.str [100,114,111,112,112,101,100]))),(7,(.c (.str [114,101,106,101,99,116,101,100]))),(8,(.c (.str [97,99,99,101,112,116,101,100]))),(9,(.c (.str [115,101,110,116]))),(10,(.c (.str [108,111,115,116]))),(11,(.c (.str [99,108,111,115,101,100]))),(12,(.c (.str [114,101,97,112,101,100]))),(13,(.c (.str [102,111,114,99,101,100])))]),mv 0 1]) (.ret)
def Aiz:AFunc:=⟨0,2,[.tmp 0],
 .seq (.ops [i1 0 (.move (.c .nils))]) (ArA)⟩
def AkE:Aam := .seq (.ops [mv 10 6,i1 11 (.bin .lss (.t 10) (k6 0))]) (.cond (.t 11) (.seq (.ops [i1 4 (.move (.c (.int .u64 0))),i1 5 (.move (.c (.bool false)))]) (.ret)) (.skip))
def AkD:Aam := .seq (.ops [mv 12 6,i1 13 (.faddr 0 (.t 2)),i1 14 (.iaddrArr 14 1 (.t 13) (.t 12)),i1 15 (.load false 1 (.t 14)),mv 4 15,i1 5 (.move (.c (.bool true)))]) (.ret)
def Ada:AFunc:=⟨2,16,[.tmp 4,.tmp 5],
 .seq (.ops [i1 2 (.box 14 (.t 0)),i1 4 (.move (.c (.int .u64 0))),i1 5 (.move (.c (.bool false)))]) (.seq (.ops [i1 7 (cf AgL []),mv 8 1,i1 9 (cf Abz [(.t 7),(.t 8)]),mv 6 9]) (.seq (AkE) (AkD)))⟩
def AkC:Aam := .seq (.ops [mv 13 6,mv 14 4,i1 15 (.faddr 0 (.t 1)),i1 16 (.iaddrArr 14 1 (.t 15) (.t 14)),i1 17 (.load false 1 (.t 16)),i1 18 (.bin .leq (.t 13) (.t 17))]) (.cond (.t 18) (.exit 1) (.skip))
def AkB:Aam := .seq (.block 1 (.seq (.ops [mv 11 9,i1 12 (.idxArr false 14 1 (.t 8) (.t 9)),mv 5 11,mv 6 12]) (.seq (AkC) (.ops [mv 19 5,mv 4 19])))) (.ops [i1 20 (.bin .add (.t 9) (k6 1)),mv 9 20])
def AkA:Aam := .seq (.ops [i1 7 (.faddr 0 (.t 1)),i1 8 (.load true 14 (.t 7)),i1 9 (.move (k6 0))]) (.block 0 (.loop (.seq (.ops [i1 10 (.bin .lss (.t 9) (k6 14))]) (.seq (.cond (.t 10) (.skip) (.exit 0)) (AkB)))))
def Akz:Aam := .seq (.ops [mv 21 4,i1 22 (.faddr 0 (.t 1)),i1 23 (.iaddrArr 14 1 (.t 22) (.t 21)),i1 24 (.load false 1 (.t 23)),i1 25 (.bin .eql (.t 24) (.c (.int .u64 0)))]) (.cond (.t 25) (.seq (.ops [i1 2 (.move (.c (.str []))),i1 3 (.move (.c (.bool false)))]) (.ret)) (.skip))
def Aky:Aam := .seq (.ops [i1 26 (cf AgL []),mv 27 4,i1 28 (.iaddr 1 (.t 26) (.t 27)),i1 29 (.load false 1 (.t 28)),mv 2 29,i1 3 (.move (.c (.bool true)))]) (.ret)
def Aev:AFunc:=⟨1,30,[.tmp 2,.tmp 3],
 .seq (.ops [i1 1 (.box 14 (.t 0)),i1 2 (.move (.c (.str []))),i1 3 (.move (.c (.bool false)))]) (.seq (.ops [i1 4 (.move (k6 0))]) (.seq (.skip) (.seq (AkA) (.seq (Akz) (Aky)))))⟩
def c_word_Sub:AFunc:=⟨2,10,[.tmp 4],
 .seq (.ops [i1 4 (.move (.c (.int .u64 0)))]) (.seq (.ops [mv 5 0,mv 6 0,mv 7 1,i1 8 (.minI [(.t 6),(.t 7)]),i1 9 (.bin .sub (.t 5) (.t 8)),mv 4 9]) (.ret))⟩
def Aro:Aam := .seq (.ops [mv 7 0,i1 8 (.conv (.flt .f64) (.t 7)),mv 9 1,i1 10 (.conv (.flt .f64) (.t 9)),mv 5 8,mv 6 10]) (.seq (.ops [mv 11 5,mv 12 5,mv 13 6,i1 14 (.bin .add (.t 12) (.t 13)),i1 15 (.bin .quo (.t 11) (.t 14)),mv 4 15]) (.ret))
def Aeu:AFunc:=⟨2,16,[.tmp 4],
 .seq (.ops [i1 4 (.move (.c (.flt .f64 0)))]) (Aro)⟩
def AdF:Aam := .seq (.ops [mv 11 1,mv 12 0,mv 13 5,i1 14 (.iaddr 1 (.t 12) (.t 13)),i1 15 (.load false 1 (.t 14)),i1 16 (.bin .eql (.t 11) (.t 15))]) (.cond (.t 16) (.seq (.ops [mv 17 5,mv 4 17]) (.ret)) (.skip))
def AdE:Aam := .seq (.cond (.t 9) (.skip) (.exit 0)) (.seq (.block 1 (.seq (.ops [mv 10 8,mv 5 10]) (AdF))) (.ops [i1 18 (.bin .add (.t 8) (k6 1)),mv 8 18]))
def AdD:Aam := .seq (.ops [mv 6 0,i1 7 (.len false (.t 6)),i1 8 (.move (k6 0))]) (.block 0 (.loop (.seq (.ops [i1 9 (.bin .lss (.t 8) (.t 7))]) (AdE))))
def AbA:AFunc:=⟨2,19,[.tmp 4],
 .seq (.ops [i1 4 (.move (k6 0))]) (.seq (AdD) (.seq (.ops [i1 4 (.move (k6 (-1)))]) (.ret)))⟩
def fnS (n:Nat):Option AFunc:=(bif Nat.blt n 58 then (bif Nat.blt n 54 then (bif Nat.blt n 51 then (bif Nat.blt n 50 then (bif Nat.beq n 9 then some c_l34_StatJoins else none) else (bif Nat.beq n 50 then some AnW else none)) else (bif Nat.blt n 52 then (bif Nat.beq n 51 then some Ada else none) else (bif Nat.beq n 52 then some Adk else none))) else (bif Nat.blt n 56 then (bif Nat.blt n 55 then (bif Nat.beq n 54 then some AkV else none) else (bif Nat.beq n 55 then some AiD else none)) else (bif Nat.blt n 57 then (bif Nat.beq n 56 then some Asw else none) else (bif Nat.beq n 57 then some c_stat_Stat_Join else none)))) else (bif Nat.blt n 82 then (bif Nat.blt n 63 then (bif Nat.blt n 59 then (bif Nat.beq n 58 then some c_stat_Stat_Less else none) else (bif Nat.beq n 59 then some Aqa else none)) else (bif Nat.blt n 67 then (bif Nat.beq n 63 then some Aiz else none) else (bif Nat.beq n 67 then some Aev else none))) else (bif Nat.blt n 134 then (bif Nat.blt n 132 then (bif Nat.beq n 82 then some AkQ else none) else (bif Nat.beq n 132 then some AbA else none)) else (bif Nat.blt n 135 then (bif Nat.beq n 134 then some Aeu else none) else (bif Nat.beq n 135 then some c_word_Sub else none)))))
def nameL:List (List UInt8):=[[111,112,101,110,101,100],[102,117,108,108],[114,101,102,117,115,101,100],[98,97,100],[117,110,107,110,111,119,110],[101,109,112,116,121],[100,114,111,112,112,101,100],[114,101,106,101,99,116,101,100],[97,99,99,101,112,116,101,100],[115,101,110,116],[108,111,115,116],[99,108,111,115,101,100],[114,101,97,112,101,100],[102,111,114,99,101,100]]
def namesV:AVal := .imm (nameL.map fun s=>[.str s])
def pureS (n:Nat):Option (List AVal→Option AVal):=bif Nat.beq n 49 then some (fun l=>match l with
 | []=>some (.bool true)
 | _=>none) else bif Nat.beq n 133 then some (fun l=>match l with
 | []=>some namesV
 | _=>none) else bif Nat.beq n 136 then some AgK else bif Nat.beq n 137 then some Bbm else none
def APs:AaF:={fn:=fnS,keep:=fun _=>false,split:=fun _=>false,prim:=fun _=>none,pure:=pureS,slim:=true}
end Go.Eng.St
namespace Go.Eng.St
open Go Go.Eng
variable [Inhabited GlobT]
attribute [local irreducible] OpR TL TD TC TS AaB
abbrev u6 (n:Nat):AVal := .int .u64 (n:Int)
def satN (x y:Nat):Nat:=if 18446744073709551615 - x<y then 18446744073709551615 else x+y
theorem Akf {x y:Nat} (hx:x<18446744073709551616):satN x y<18446744073709551616:=by unfold satN;split<;>omega
theorem AhK (x y:Nat) (hx:x<18446744073709551616) (hy:y<18446744073709551616):AaB APs ApL [u6 x,u6 y] (u6 (satN x y)):=by
 refine Aaq (af:=AkQ) rfl rfl ?_
 refine Aac (Aad (Aaa 1 rfl (Aab (Aac (Aac (Aad ?_))))))
 refine Aaa 2 rfl ?_;refine Aae (BcO (a:=18446744073709551615) rfl rfl (by omega) (Acj (by omega))) rfl rfl rfl rfl ?_
 refine Aaa 1 rfl (Aab ?_)
 refine Aax rfl decide_eq_true_iff (fun h=>?_) (fun h=>?_)
 ·have:satN x y=18446744073709551615:=by unfold satN;rw [if_pos (by omega)]
  rw [this]
  refine Aac (Aad (Aaa 1 rfl (Aab ?_)));exact Aay (retd rfl ⟨_,AaA rfl⟩)
 ·have:satN x y=x+y:=by unfold satN;rw [if_neg (by omega)]
  rw [this]
  refine Aas (Aac (Aad (Aaa 2 rfl ?_)));refine Aae (AtG rfl rfl (Acj (by omega))) rfl rfl rfl rfl ?_
  refine Aaa 1 rfl (Aab ?_);exact Aay (retd rfl ⟨_,AaA rfl⟩)
def subN (x y:Nat):Nat:=x - y
theorem BbT (x y:Nat) (hx:x<18446744073709551616) (hy:y<18446744073709551616):AaB APs f_word_Sub [u6 x,u6 y] (u6 (subN x y)):=by
 have:subN x y=x - min x y:=by unfold subN;omega
 rw [this]
 refine Aaq (af:=c_word_Sub) rfl rfl ?_
 refine Aac (Aad (Aaa 1 rfl (Aab (Aac (Aad (Aaa 3 rfl ?_))))))
 refine Aae (BcT rfl rfl) rfl rfl rfl rfl ?_;refine Aae (BcO rfl rfl (by omega) (Acj (by omega))) rfl rfl rfl rfl ?_
 refine Aaa 1 rfl (Aab ?_);exact Aay (retd rfl ⟨_,AaA rfl⟩)
abbrev cl (L:List Nat):List AVal:=L.map u6
@[simp] theorem cl_closed (L:List Nat):AaH (cl L)=true:=AaL (fun _=>rfl) _
@[simp] theorem cl_noref (L:List Nat):norefL (cl L)=true:=AbG (fun _=>rfl) _
@[simp] theorem cr_closed (L:List Nat):AaX (L.map fun x=>[u6 x])=true:=Abj (fun _=>rfl) _
def OkL (L:List Nat):Prop:=L.length=14∧∀ x∈L,x<18446744073709551616
theorem OkL.get {L:List Nat} (h:OkL L) (i:Nat):L.getD i 0<18446744073709551616:=by
 rw [List.getD_eq_getElem?_getD]
 cases hi:L[i]? with
 | none=>simp
 | some x=>exact h.2 x (List.mem_of_getElem? hi)
theorem of14 {L:List Nat} (h:OkL L):∃ a b c d e f g i j k l m n o,L=[a,b,c,d,e,f,g,i,j,k,l,m,n,o]:=by
 obtain⟨h,-⟩:=h
 match L,h with
 | [a,b,c,d,e,f,g,i,j,k,l,m,n,o],_=>exact⟨a,b,c,d,e,f,g,i,j,k,l,m,n,o,rfl⟩
set_option maxRecDepth 20000 in
theorem of_ok (L:List Nat) (h:OkL L):AaB APs Aub [.agg (cl L)] (.agg (cl L)):=by
 obtain⟨a,b,c,d,e,f,g,i,j,k,l,m,n,o,rfl⟩:=of14 h
 refine Aaq (af:=AnW) rfl rfl ?_
 refine Aac (Aad (Aaa 2 rfl (Aab (Aac (Aad (Aaa 28 rfl ?_))))))
 refine Aae (Adt rfl rfl) rfl rfl rfl rfl ?_;refine Aae (Adt rfl rfl) rfl rfl rfl rfl ?_;refine Aaa 1 rfl (Aab ?_)
 exact Aay (retd rfl ⟨_,AaA rfl⟩)
theorem AmL:AaB APs Adf [] namesV:=by
 refine Aaq (af:=Aiz) rfl rfl ?_
 refine Aac (Aad (Aaa 1 rfl (Aab (Aac (Aad ?_)))))
 refine Aae (Abc rfl rfl rfl) rfl rfl rfl rfl ?_;refine Aaa 1 rfl (Aab ?_);exact Aay (AlU rfl rfl)
def idxI (ls:List (List UInt8)) (s:List UInt8):Int:=if s∈ls then (ls.idxOf s:Int) else -1
theorem idxI_at {ls:List (List UInt8)} {s:List UInt8} {i:Nat} (h:ls[i]?=some s) (hn:∀ j,j<i→ls[j]?≠some s):idxI ls s=(i:Int):=by
 obtain⟨hi,hs⟩:=List.getElem?_eq_some_iff.1 h
 have hm:s∈ls:=hs▸List.getElem_mem hi
 unfold idxI
 rw [if_pos hm]
 have h1:ls.idxOf s<ls.length:=List.idxOf_lt_length_iff.2 hm
 have h2:ls[ls.idxOf s]=s:=List.getElem_idxOf h1
 have h3:ls.idxOf s=i:=by
  rcases Nat.lt_trichotomy (ls.idxOf s) i with h4 | h4 | h4
  ·exact absurd (by rw [List.getElem?_eq_getElem h1,h2]) (hn _ h4)
  ·exact h4
  ·exfalso
   have:=List.not_of_lt_findIdx (p:=(· == s)) (xs:=ls) (i:=i) h4
   simp [hs] at this
 omega
theorem Azh (ls:List (List UInt8)) (hl:ls.length<4294967296) (s:List UInt8):AaB APs Abz [.imm (ls.map fun t=>[.str t]),.str s] (.int .i64 (idxI ls s)):=by
 refine Aaq (af:=AbA) rfl rfl ?_
 refine Aac (Aad (Aaa 1 rfl (Aab (Aac (Aac (Aad ?_))))))
 refine Aaa 3 rfl (Aab ?_)
 refine Aaj (AaJ (σ:=Nat) (fun i=>ls.length - i) (fun i=>[(0,.imm (ls.map fun t=>[.str t])),(1,.str s),(7,.int .i64 ((ls.map fun t=>[AVal.str t]).length:Int)),(8,.int .i64 (i:Int))])
  (fun i S=>i≤ls.length∧S=[]∧∀ j,j<i→ls[j]?≠some s) 0 (by (repeat' (first | exact Aav | refine Aal rfl ?_))) ⟨by omega,rfl,fun j h=>absurd h (by omega)⟩ ?_)
 rintro i S ⟨hi,rfl,hn⟩
 refine Aac (Aad (Aaa 1 rfl (Aab (Aac ?_))))
 refine Aax rfl decide_eq_true_iff (fun h=>Aas ?_) (fun h=>AaG ?_)
 ·have hi':i<ls.length:=by simp at h;omega
  refine Aac ?_;refine Aaj ?_;refine Aac (Aad (Aaa 2 rfl (Aab (Aac (Aad ?_)))))
  refine Aaa 3 rfl ?_
  refine Aae (Aby rfl rfl (Abb (d:=[]) hi') rfl) rfl rfl rfl rfl ?_
  refine Aaa 2 rfl (Aab ?_)
  have hg:ls[i]?=some (ls.getD i []):=by rw [List.getD_eq_getElem?_getD,List.getElem?_eq_getElem hi'];rfl
  refine Aax rfl beq_iff_eq (fun c=>?_) (fun c=>?_)
  ·have e:idxI ls s=(i:Int):=idxI_at (by rw [hg,←c]) hn
   rw [e]
   refine Aac (Aad (Aaa 2 rfl (Aab ?_)));exact Aay (retd rfl ⟨_,AaA rfl⟩)
  ·refine Aas (Aad ?_);refine Aae (AaK (b:=1) rfl rfl (by omega)) rfl rfl rfl rfl ?_;refine Aaa 1 rfl (Aab ?_)
   refine⟨i+1,by omega,by (repeat' (first | exact Aav | refine Aal rfl ?_)),by omega,rfl,fun j hj=>?_⟩
   rcases Nat.lt_or_ge j i with h1 | h1
   ·exact hn j h1
   ·have:j=i:=by omega
    subst this
    rw [hg]
    exact fun h2=>c (Option.some.inj h2).symm
 ·have e:idxI ls s = -1:=by
   unfold idxI
   rw [if_neg]
   intro hm
   obtain⟨j,hj,hjs⟩:=List.getElem_of_mem hm
   have hlen:ls.length≤i:=by simp at h;omega
   exact hn j (by omega) (by rw [List.getElem?_eq_getElem hj,hjs])
  rw [e]
  refine Aac (Aad (Aaa 1 rfl (Aab ?_)));exact Aay (retd rfl ⟨_,AaA rfl⟩)
def getV (L:List Nat) (s:List UInt8):Nat:=if s∈nameL then L.getD (nameL.idxOf s) 0 else 0
theorem name_lt {s:List UInt8} (h:s∈nameL):nameL.idxOf s<14:=List.idxOf_lt_length_iff.2 h
theorem Afr (L:List Nat) (h:OkL L) (s:List UInt8):AaB APs Abu [.agg (cl L),.str s] (.tuple [u6 (getV L s),.bool (decide (s∈nameL))]):=by
 have hi:=Azh nameL (by decide) s
 have hlen:=h.1
 by_cases hm:s∈nameL
 ·have e1:idxI nameL s=((nameL.idxOf s:Nat):Int):=if_pos hm
  have e2:getV L s=L.getD (nameL.idxOf s) 0:=if_pos hm
  have e3:decide (s∈nameL)=true:=by simp [hm]
  have e4:=name_lt hm
  rw [e1] at hi
  rw [e2,e3]
  generalize nameL.idxOf s=i at *
  refine Aaq (af:=Ada) rfl rfl ?_
  refine Aac (Aad ?_);refine Abm (AcN rfl (by simp;omega)) rfl rfl rfl rfl ?_;refine Aaa 2 rfl (Aab ?_)
  refine Aac (Aad (Aaa 2 rfl ?_));refine Aaf rfl rfl (hi) rfl rfl rfl rfl rfl rfl ?_;refine Aaa 1 rfl ?_
  refine Aab (Aac (Aac (Aad (Aaa 2 rfl (Aab ?_)))))
  refine AaC (t:=false) rfl (fun h=>nomatch h) (fun _=>?_);refine Aas (Aac (Aad (Aaa 2 rfl ?_)))
  refine Aae (Abi rfl rfl (by omega)) rfl rfl rfl rfl ?_;refine Aae (Abe 0 rfl rfl (by omega)) rfl rfl rfl rfl ?_;refine Aaa 2 rfl ?_
  refine Aab ?_;exact Aay (retd rfl ⟨_,AaA rfl⟩)
 ·have e1:idxI nameL s = -1:=if_neg hm
  have e2:getV L s=0:=if_neg hm
  have e3:decide (s∈nameL)=false:=by simp [hm]
  rw [e1] at hi
  rw [e2,e3]
  obtain⟨a,b,c,d,e,f,g,i',j,k,l,m,n,o,rfl⟩:=of14 h
  refine Aaq (af:=Ada) rfl rfl ?_
  refine Aac (Aad (Aaa 3 rfl (Aab (Aac (Aad (Aaa 2 rfl ?_))))))
  refine Aaf rfl rfl (hi) rfl rfl rfl rfl rfl rfl ?_;refine Aaa 1 rfl (Aab (Aac (Aac (Aad ?_))))
  refine Aaa 2 rfl (Aab ?_);refine AaC (t:=true) rfl (fun _=>?_) (fun h=>nomatch h);refine Aac (Aad ?_)
  refine Aaa 2 rfl (Aab ?_);exact Aay (retd rfl ⟨_,AaA rfl⟩)
def AgD (f:Nat→Nat→Nat) (L M:List Nat) (i:Nat):List Nat:=(List.range 14).map fun j=>if j<i then f (L.getD j 0) (M.getD j 0) else L.getD j 0
def allL (f:Nat→Nat→Nat) (L M:List Nat):List Nat:=(List.range 14).map fun j=>f (L.getD j 0) (M.getD j 0)
theorem Afn (f:Nat→Nat→Nat) (L M:List Nat) (i:Nat):(AgD f L M i).length=14:=by simp [AgD]
theorem Aps {f:Nat→Nat→Nat} {L M:List Nat} (h:OkL L):AgD f L M 0=L:=by
 obtain⟨a,b,c,d,e,f',g,i,j,k,l,m,n,o,rfl⟩:=of14 h
 rfl
theorem Att {f:Nat→Nat→Nat} {L M:List Nat}:AgD f L M 14=allL f L M:=by
 unfold AgD allL
 refine List.map_congr_left fun j hj=>?_
 rw [if_pos (List.mem_range.1 hj)]
theorem Ajj {f:Nat→Nat→Nat} {L M:List Nat} {i j:Nat} (hj:j<14):(AgD f L M i).getD j 0=if j<i then f (L.getD j 0) (M.getD j 0) else L.getD j 0:=by
 unfold AgD
 rw [List.getD_eq_getElem?_getD,List.getElem?_map,List.getElem?_range hj];rfl
theorem Ats {f:Nat→Nat→Nat} {L M:List Nat} {i:Nat} (hi:i<14):(AgD f L M i).set i (f (L.getD i 0) (M.getD i 0))=AgD f L M (i+1):=by
 refine List.ext_getElem? fun j=>?_
 rw [List.getElem?_set]
 by_cases hj:j<14
 ·have e:∀ k,(AgD f L M k)[j]?=some (if j<k then f (L.getD j 0) (M.getD j 0) else L.getD j 0):=fun k=>by
   unfold AgD
   rw [List.getElem?_map,List.getElem?_range hj];rfl
  rw [e,e,Afn]
  by_cases hij:i=j
  ·subst hij
   rw [if_pos rfl,if_pos hi,if_pos (Nat.lt_succ_self _)]
  ·rw [if_neg hij]
   by_cases h2:j<i
   ·rw [if_pos h2,if_pos (by omega)]
   ·rw [if_neg h2,if_neg (by omega)]
 ·rw [List.getElem?_eq_none (by rw [Afn];omega),List.getElem?_eq_none (by rw [Afn];omega)]
  split
  ·rw [if_neg (by rw [Afn];omega)]
  ·rfl
theorem allL_ok {f:Nat→Nat→Nat} {L M:List Nat} (hf:∀ x y,x<18446744073709551616→f x y<18446744073709551616) (h:OkL L):OkL (allL f L M):=by
 refine⟨by simp [allL],fun x hx=>?_⟩
 obtain⟨j,-,rfl⟩:=List.mem_map.1 hx
 exact hf _ _ (h.get j)
theorem join_ok (L M:List Nat) (h:OkL L) (hM:OkL M):AaB APs f_stat_Stat_Join [.agg (cl L),.agg (cl M)] (.agg (cl (allL satN L M))):=by
 have hl:=h.1
 have hm:=hM.1
 refine Aaq (af:=c_stat_Stat_Join) rfl rfl ?_
 refine Aac (Aad ?_);refine Abm (AcN rfl (by simp;omega)) rfl rfl rfl rfl ?_
 refine Abm (AcN rfl (by simp;omega)) rfl rfl rfl rfl ?_;refine Aaa 1 rfl (Aab (Aac (Aac ?_)))
 refine Aad (Aaa 1 rfl ?_);refine Aae (Abs rfl rfl (by simp;omega)) rfl rfl rfl rfl ?_;refine Aaa 1 rfl (Aab ?_)
 refine Aaj (AaJ (σ:=Nat) (fun i=>14 - i) (fun i=>[(2,.ptr 0 0 0),(3,.ptr 1 0 0),(4,.ptr 2 0 0),(8,.agg (cl M)),(9,.int .i64 (i:Int))])
  (fun i S=>i≤14∧S=[some ⟨14,[cl (AgD satN L M i)]⟩,some ⟨14,[cl M]⟩,some ⟨14,[zs .u64 14]⟩]) 0 (by (repeat' (first | exact Aav | refine Aal rfl ?_))) ⟨by omega,by rw [Aps h];rfl⟩ ?_)
 rintro i S ⟨hi,rfl⟩
 have hp:=Afn satN L M i
 refine Aac (Aad (Aaa 1 rfl (Aab (Aac ?_))))
 refine Aax rfl decide_eq_true_iff (fun c=>Aas ?_) (fun c=>AaG ?_)
 ·have hi':i<14:=by omega
  have ha:=AhK ((AgD satN L M i).getD i 0) (M.getD i 0) (by rw [Ajj hi',if_neg (by omega)];exact h.get i) (hM.get i)
  refine Aac ?_;refine Aaj ?_;refine Aac (Aad (Aaa 1 rfl ?_))
  refine Aae (AyT 0 rfl rfl (by omega) (by omega)) rfl rfl rfl rfl ?_;refine Aaa 2 rfl (Aab (Aad ?_))
  refine Aaa 3 rfl ?_;refine Aae (Abi rfl rfl (by omega)) rfl rfl rfl rfl ?_;refine Aae (Abe 0 rfl rfl (by omega)) rfl rfl rfl rfl ?_
  refine Aaa 1 rfl ?_;refine Aaf rfl rfl (ha) rfl rfl rfl rfl rfl rfl ?_;refine Aaa 1 rfl ?_
  refine Aae (Abi rfl rfl (by omega)) rfl rfl rfl rfl ?_;refine Aae (AfK rfl rfl rfl rfl rfl (by omega)) rfl rfl rfl rfl ?_
  refine Aab (Aad ?_);refine Aae (AaK (b:=1) rfl rfl (by omega)) rfl rfl rfl rfl ?_;refine Aaa 1 rfl (Aab ?_)
  refine⟨i+1,by omega,by (repeat' (first | exact Aav | refine Aal rfl ?_)),by omega,?_⟩
  have e:satN ((AgD satN L M i).getD i 0) (M.getD i 0)=satN (L.getD i 0) (M.getD i 0):=by rw [Ajj hi',if_neg (by omega)]
  rw [←Ats (f:=satN) (L:=L) (M:=M) hi',←e]
  simp [List.map_set]
 ·have:i=14:=by omega
  subst this
  rw [Att]
  refine Aac (Aad (Aaa 2 rfl (Aab ?_)));exact Aay (retd rfl ⟨_,AaA rfl⟩)
theorem less_ok (L M:List Nat) (h:OkL L) (hM:OkL M):AaB APs f_stat_Stat_Less [.agg (cl L),.agg (cl M)] (.agg (cl (allL subN L M))):=by
 have hl:=h.1
 have hm:=hM.1
 refine Aaq (af:=c_stat_Stat_Less) rfl rfl ?_
 refine Aac (Aad ?_);refine Abm (AcN rfl (by simp;omega)) rfl rfl rfl rfl ?_
 refine Abm (AcN rfl (by simp;omega)) rfl rfl rfl rfl ?_;refine Aaa 1 rfl (Aab (Aac (Aac ?_)))
 refine Aad (Aaa 1 rfl ?_);refine Aae (Abs rfl rfl (by simp;omega)) rfl rfl rfl rfl ?_;refine Aaa 1 rfl (Aab ?_)
 refine Aaj (AaJ (σ:=Nat) (fun i=>14 - i) (fun i=>[(2,.ptr 0 0 0),(3,.ptr 1 0 0),(4,.ptr 2 0 0),(8,.agg (cl M)),(9,.int .i64 (i:Int))])
  (fun i S=>i≤14∧S=[some ⟨14,[cl (AgD subN L M i)]⟩,some ⟨14,[cl M]⟩,some ⟨14,[zs .u64 14]⟩]) 0 (by (repeat' (first | exact Aav | refine Aal rfl ?_))) ⟨by omega,by rw [Aps h];rfl⟩ ?_)
 rintro i S ⟨hi,rfl⟩
 have hp:=Afn subN L M i
 refine Aac (Aad (Aaa 1 rfl (Aab (Aac ?_))))
 refine Aax rfl decide_eq_true_iff (fun c=>Aas ?_) (fun c=>AaG ?_)
 ·have hi':i<14:=by omega
  have ha:=BbT ((AgD subN L M i).getD i 0) (M.getD i 0) (by rw [Ajj hi',if_neg (by omega)];exact h.get i) (hM.get i)
  refine Aac ?_;refine Aaj ?_;refine Aac (Aad (Aaa 1 rfl ?_))
  refine Aae (AyT 0 rfl rfl (by omega) (by omega)) rfl rfl rfl rfl ?_;refine Aaa 2 rfl (Aab (Aad ?_))
  refine Aaa 3 rfl ?_;refine Aae (Abi rfl rfl (by omega)) rfl rfl rfl rfl ?_;refine Aae (Abe 0 rfl rfl (by omega)) rfl rfl rfl rfl ?_
  refine Aaa 1 rfl ?_;refine Aaf rfl rfl (ha) rfl rfl rfl rfl rfl rfl ?_;refine Aaa 1 rfl ?_
  refine Aae (Abi rfl rfl (by omega)) rfl rfl rfl rfl ?_;refine Aae (AfK rfl rfl rfl rfl rfl (by omega)) rfl rfl rfl rfl ?_
  refine Aab (Aad ?_);refine Aae (AaK (b:=1) rfl rfl (by omega)) rfl rfl rfl rfl ?_;refine Aaa 1 rfl (Aab ?_)
  refine⟨i+1,by omega,by (repeat' (first | exact Aav | refine Aal rfl ?_)),by omega,?_⟩
  have e:subN ((AgD subN L M i).getD i 0) (M.getD i 0)=subN (L.getD i 0) (M.getD i 0):=by rw [Ajj hi',if_neg (by omega)]
  rw [←Ats (f:=subN) (L:=L) (M:=M) hi',←e]
  simp [List.map_set]
 ·have:i=14:=by omega
  subst this
  rw [Att]
  refine Aac (Aad (Aaa 2 rfl (Aab ?_)));exact Aay (retd rfl ⟨_,AaA rfl⟩)
def bestN (L:List Nat):Nat→Nat
 | 0=>0
 | i+1=>if L.getD i 0≤L.getD (bestN L i) 0 then bestN L i else i
theorem AsB (L:List Nat):∀ i,i≤14→bestN L i<14
 | 0,_=>by simp [bestN]
 | i+1,h=>by
   have:=AsB L i (by omega)
   unfold bestN
   split<;>omega
def topV (L:List Nat):List UInt8:=if L.getD (bestN L 14) 0=0 then [] else nameL.getD (bestN L 14) []
def topB (L:List Nat):Bool:=decide (L.getD (bestN L 14) 0≠0)
theorem top_ok (L:List Nat) (h:OkL L):AaB APs AgM [.agg (cl L)] (.tuple [.str (topV L),.bool (topB L)]):=by
 have hl:=h.1
 refine Aaq (af:=Aev) rfl rfl ?_
 refine Aac (Aad ?_);refine Abm (AcN rfl (by simp;omega)) rfl rfl rfl rfl ?_;refine Aaa 2 rfl (Aab ?_)
 refine Aac (Aad (Aaa 1 rfl (Aab (Aac (Aas (Aac (Aac ?_)))))))
 refine Aad (Aaa 1 rfl ?_);refine Aae (Abs rfl rfl (by simp;omega)) rfl rfl rfl rfl ?_;refine Aaa 1 rfl (Aab ?_)
 refine Aaj (AaJ (σ:=Nat) (fun i=>14 - i) (fun i=>[(1,.ptr 0 0 0),(2,.str []),(3,.bool false),(4,.int .i64 (bestN L i:Int)),(8,.agg (cl L)),(9,.int .i64 (i:Int))])
  (fun i S=>i≤14∧S=[some ⟨14,[cl L]⟩]) 0 (by (repeat' (first | exact Aav | refine Aal rfl ?_))) ⟨by omega,rfl⟩ ?_)
 rintro i S ⟨hi,rfl⟩
 have hb:=AsB L i hi
 refine Aac (Aad (Aaa 1 rfl (Aab (Aac ?_))))
 refine Aax rfl decide_eq_true_iff (fun c=>Aas ?_) (fun c=>AaG ?_)
 ·have hi':i<14:=by omega
  refine Aac ?_;refine Aaj ?_;refine Aac (Aad (Aaa 1 rfl ?_))
  refine Aae (AyT 0 rfl rfl (by omega) (by omega)) rfl rfl rfl rfl ?_;refine Aaa 2 rfl (Aab (Aac (Aac ?_)))
  refine Aad (Aaa 3 rfl ?_);refine Aae (Abi rfl rfl (by omega)) rfl rfl rfl rfl ?_
  refine Aae (Abe 0 rfl rfl (by omega)) rfl rfl rfl rfl ?_;refine Aaa 1 rfl (Aab ?_)
  refine Aax rfl decide_eq_true_iff (fun g=>AaG ?_) (fun g=>Aas ?_)
  ·have e:bestN L (i+1)=bestN L i:=if_pos (by omega)
   refine Aad ?_;refine Aae (AaK (b:=1) rfl rfl (by omega)) rfl rfl rfl rfl ?_;refine Aaa 1 rfl (Aab ?_)
   exact⟨i+1,by omega,by rw [e];(repeat' (first | exact Aav | refine Aal rfl ?_)),by omega,rfl⟩
  ·have e:bestN L (i+1)=i:=if_neg (by omega)
   refine Aad (Aaa 2 rfl (Aab (Aad ?_)));refine Aae (AaK (b:=1) rfl rfl (by omega)) rfl rfl rfl rfl ?_
   refine Aaa 1 rfl (Aab ?_)
   exact⟨i+1,by omega,by rw [e];(repeat' (first | exact Aav | refine Aal rfl ?_)),by omega,rfl⟩
 ·have:i=14:=by omega
  subst this
  refine Aac (Aac (Aad (Aaa 2 rfl ?_)));refine Aae (Abi rfl rfl (by omega)) rfl rfl rfl rfl ?_
  refine Aae (Abe 0 rfl rfl (by omega)) rfl rfl rfl rfl ?_;refine Aaa 1 rfl (Aab ?_)
  refine Aax rfl beq_iff_eq (fun g=>?_) (fun g=>Aas ?_)
  ·have g:L.getD (bestN L 14) 0=0:=by omega
   have e1:topV L=[]:=if_pos g
   have e2:topB L=false:=by unfold topB;rw [g];rfl
   rw [e1,e2]
   refine Aac (Aad (Aaa 2 rfl (Aab ?_)));exact Aay (retd rfl ⟨_,AaA rfl⟩)
  ·have g:L.getD (bestN L 14) 0≠0:=by omega
   have e1:topV L=nameL.getD (bestN L 14) []:=if_neg g
   have e2:topB L=true:=by unfold topB;exact decide_eq_true g
   rw [e1,e2]
   have hb':bestN L 14<nameL.length:=hb
   refine Aac (Aad (Aaa 2 rfl ?_))
   refine Aae (Aby rfl rfl (Abb (d:=[]) hb') rfl) rfl rfl rfl rfl ?_
   refine Aaa 3 rfl (Aab ?_);exact Aay (retd rfl ⟨_,AaA rfl⟩)
theorem name_at:∀ i,i<14→nameL.idxOf (nameL.getD i [])=i∧nameL.getD i []∈nameL:=by decide
theorem AcX (L:List Nat) {i:Nat} (hi:i<14):getV L (nameL.getD i [])=L.getD i 0∧decide (nameL.getD i []∈nameL)=true:=by
 obtain⟨h1,h2⟩:=name_at i hi
 exact⟨by unfold getV;rw [if_pos h2,h1],decide_eq_true h2⟩
theorem is_ok (L:List Nat) (h:OkL L):AaB APs Azr [.agg (cl L),.imm (L.map fun x=>[u6 x])] (.bool true):=by
 have hl:=h.1
 have hr:=AmL
 refine Aaq (af:=Asw) rfl rfl ?_
 refine Aac (Aad ?_);refine Abm (AcN rfl (by simp;omega)) rfl rfl rfl rfl ?_;refine Aaa 1 rfl (Aab ?_)
 refine Aac (Aad (Aaa 1 rfl (Aab (Aac (Aac (Aad ?_))))))
 refine Aaf rfl rfl (hr) rfl rfl rfl rfl rfl rfl ?_;refine Aaa 2 rfl (Aab ?_)
 refine Aaj (AaJ (σ:=Nat) (fun i=>14 - i) (fun i=>[(1,.imm (L.map fun x=>[u6 x])),(2,.ptr 0 0 0),(4,.bool false),(5,.int .i64 (bestN L i:Int)),(12,namesV),(13,.int .i64 14),(14,.int .i64 (i:Int))])
  (fun i S=>i≤14∧S=[some ⟨14,[cl L]⟩]) 0 (by (repeat' (first | exact Aav | refine Aal rfl ?_))) ⟨by omega,rfl⟩ ?_)
 rintro i S ⟨hi,rfl⟩
 have hb:=AsB L i hi
 refine Aac (Aad (Aaa 1 rfl (Aab (Aac ?_))))
 refine Aax rfl decide_eq_true_iff (fun c=>Aas ?_) (fun c=>AaG ?_)
 ·have hi':i<14:=by omega
  have hin:i<nameL.length:=hi'
  have hiL:i<L.length:=by omega
  have hbL:bestN L i<L.length:=by omega
  have hg:=Afr L h (nameL.getD i [])
  obtain⟨g1,g2⟩:=AcX L hi'
  rw [g1,g2] at hg
  refine Aac ?_;refine Aaj ?_;refine Aac (Aad (Aaa 1 rfl ?_))
  refine Aae (Aby rfl rfl (Abb (d:=[]) hin) rfl) rfl rfl rfl rfl ?_
  refine Aaa 3 rfl (Aab (Aac (Aad ?_)));refine Aae (Abs rfl rfl (by simp;omega)) rfl rfl rfl rfl ?_
  refine Aaa 1 rfl ?_
  refine Aaf rfl (by simp [AVal.closed,AaH,AaX,AaL,Abj]) (hg) (by simp [AVal.noref,AVal.flat,norefL,Abo,AbG,AbZ]) rfl rfl rfl rfl rfl ?_
  refine Aaa 5 rfl (Aab (Aac (Aac (Aad (Aaa 6 rfl ?_)))))
  refine Aae (Aby rfl rfl (Abb (d:=0) (by omega)) rfl) rfl rfl rfl rfl ?_;refine Aaa 3 rfl (Aab ?_)
  refine Aax rfl bne_iff_ne (fun h=>absurd rfl h) (fun _=>Aas ?_)
  refine Aac ?_;refine AaS rfl ?_;refine Aah 2 rfl ?_;refine Aai rfl rfl (Aby rfl rfl (Abb (d:=0) (by omega)) rfl) ?_
  refine Aah 3 rfl ?_;refine Aai rfl rfl (Aby rfl rfl (Abb (d:=0) (by omega)) rfl) ?_;refine Aah 2 rfl (AaD ?_)
  refine⟨rfl,?_⟩
  refine Aax rfl decide_eq_true_iff (fun g=>?_) (fun g=>Aas ?_)
  ·have e:bestN L (i+1)=i:=if_neg (by omega)
   refine Aad (Aaa 2 rfl (Aab (Aad ?_)));refine Aae (AaK (b:=1) rfl rfl (by omega)) rfl rfl rfl rfl ?_
   refine Aaa 1 rfl (Aab ?_)
   exact⟨i+1,by omega,by rw [e];(repeat' (first | exact Aav | refine Aal rfl ?_)),by omega,rfl⟩
  ·have e:bestN L (i+1)=bestN L i:=if_pos (by omega)
   refine Aad ?_;refine Aae (AaK (b:=1) rfl rfl (by omega)) rfl rfl rfl rfl ?_;refine Aaa 1 rfl (Aab ?_)
   exact⟨i+1,by omega,by rw [e];(repeat' (first | exact Aav | refine Aal rfl ?_)),by omega,rfl⟩
 ·have:i=14:=by omega
  subst this
  have ht:=top_ok L h
  have hbL:bestN L 14<L.length:=by omega
  have hb':bestN L 14<nameL.length:=hb
  by_cases g:L.getD (bestN L 14) 0=0
  ·have e1:topV L=[]:=if_pos g
   have e2:topB L=false:=by unfold topB;rw [g];rfl
   rw [e1,e2] at ht
   refine Aac (Aad ?_);refine Aae (Abs rfl rfl (by simp;omega)) rfl rfl rfl rfl ?_
   refine Aaf rfl (by simp [AVal.closed,AaH,AaX,AaL,Abj]) (ht) (by simp [AVal.noref,AVal.flat,norefL,Abo,AbG,AbZ]) rfl rfl rfl rfl rfl ?_
   refine Aaa 5 rfl (Aab (Aac (Aad (Aaa 3 rfl ?_))))
   refine Aae (Aby rfl rfl (Abb (d:=0) (by omega)) rfl) rfl rfl rfl rfl ?_;refine Aaa 4 rfl ?_
   have e3:decide (((L.getD (bestN L 14) 0:Nat):Int)>0)=false:=by rw [g];rfl
   rw [e3]
   refine Aaa 19 rfl (Aab ?_);exact Aay (retd rfl ⟨_,AaA rfl⟩)
  ·have e1:topV L=nameL.getD (bestN L 14) []:=if_neg g
   have e2:topB L=true:=by unfold topB;exact decide_eq_true g
   rw [e1,e2] at ht
   refine Aac (Aad ?_);refine Aae (Abs rfl rfl (by simp;omega)) rfl rfl rfl rfl ?_
   refine Aaf rfl (by simp [AVal.closed,AaH,AaX,AaL,Abj]) (ht) (by simp [AVal.noref,AVal.flat,norefL,Abo,AbG,AbZ]) rfl rfl rfl rfl rfl ?_
   refine Aaa 5 rfl (Aab (Aac (Aad (Aaa 3 rfl ?_))))
   refine Aae (Aby rfl rfl (Abb (d:=0) (by omega)) rfl) rfl rfl rfl rfl ?_;refine Aaa 4 rfl ?_
   have e3:decide (((L.getD (bestN L 14) 0:Nat):Int)>0)=true:=decide_eq_true (by omega)
   rw [e3]
   refine Aaa 3 rfl ?_;refine Aaf rfl rfl (hr) rfl rfl rfl rfl rfl rfl ?_;refine Aaa 1 rfl ?_
   refine Aae (Aby rfl rfl (Abb (d:=[]) hb') rfl) rfl rfl rfl rfl ?_
   refine Aaa 4 rfl ?_
   have e4:(nameL.getD (bestN L 14) [] == nameL.getD (bestN L 14) [])=true:=beq_self_eq_true _
   rw [e4]
   refine Aaa 9 rfl (Aab ?_);exact Aay (retd rfl ⟨_,AaA rfl⟩)
end Go.Eng.St
namespace Go.Eng.St
open Go Go.Eng
variable [Inhabited GlobT]
attribute [local irreducible] OpR TL TD TC TS AaB
abbrev fl (w:Nat):AVal := .flt .f64 w
abbrev W64 (w:Nat):Prop:=w<18446744073709551616
end Go.Eng.St
namespace Go.Eng.St
open Go Go.Eng
variable [Inhabited GlobT]
attribute [local irreducible] OpR TL TD TC TS AaB
abbrev nv:AVal := .nanv .f64
def quoV (x y:Nat):AVal:=fltOr .f64 (FloatKind.f64.format.div x y)
def partV (x y:Nat):AVal:=match FloatKind.f64.format.add (FloatKind.nearest .f64 (x:Int)) (FloatKind.nearest .f64 (y:Int)) with
 | some s=>quoV (FloatKind.nearest .f64 (x:Int)) s
 | none=>nv
theorem Bcx (x y:Nat):AaB APs AhX [u6 x,u6 y] (partV x y):=by
 cases hA:FloatKind.f64.format.add (FloatKind.nearest .f64 (x:Int)) (FloatKind.nearest .f64 (y:Int)) with
 | none =>
   rw [show partV x y=nv by unfold partV;rw [hA]]
   refine Aaq (af:=Aeu) rfl rfl ?_
   refine Aac (Aad (Aaa 1 rfl (Aab (Aac (Aad (Aaa 6 rfl ?_))))))
   refine Aab (Aac (Aad (Aaa 3 rfl ?_)))
   refine Aae (Aar (v:=nv) rfl rfl (by show some (fltOr .f64 _)=_;rw [hA];rfl)) rfl rfl rfl rfl ?_
   refine Aae (Aar (v:=nv) rfl rfl rfl) rfl rfl rfl rfl ?_
   refine Aaa 1 rfl (Aab ?_);exact Aay (retd rfl ⟨_,AaA rfl⟩)
 | some s =>
   cases hD:FloatKind.f64.format.div (FloatKind.nearest .f64 (x:Int)) s with
   | none =>
     rw [show partV x y=nv by unfold partV quoV;rw [hA];dsimp only;rw [hD];rfl]
     refine Aaq (af:=Aeu) rfl rfl ?_
     refine Aac (Aad (Aaa 1 rfl (Aab (Aac (Aad (Aaa 6 rfl ?_))))))
     refine Aab (Aac (Aad (Aaa 3 rfl ?_)))
     refine Aae (Aar (v:=fl s) rfl rfl (by show some (fltOr .f64 _)=_;rw [hA];rfl)) rfl rfl rfl rfl ?_
     refine Aae (Aar (v:=nv) rfl rfl (by show some (fltOr .f64 _)=_;rw [hD];rfl)) rfl rfl rfl rfl ?_
     refine Aaa 1 rfl (Aab ?_);exact Aay (retd rfl ⟨_,AaA rfl⟩)
   | some w =>
     rw [show partV x y=fl w by unfold partV quoV;rw [hA];dsimp only;rw [hD];rfl]
     refine Aaq (af:=Aeu) rfl rfl ?_
     refine Aac (Aad (Aaa 1 rfl (Aab (Aac (Aad (Aaa 6 rfl ?_))))))
     refine Aab (Aac (Aad (Aaa 3 rfl ?_)))
     refine Aae (Aar (v:=fl s) rfl rfl (by show some (fltOr .f64 _)=_;rw [hA];rfl)) rfl rfl rfl rfl ?_
     refine Aae (Aar (v:=fl w) rfl rfl (by show some (fltOr .f64 _)=_;rw [hD];rfl)) rfl rfl rfl rfl ?_
     refine Aaa 1 rfl (Aab ?_);exact Aay (retd rfl ⟨_,AaA rfl⟩)
theorem AlZ (x y:Nat):partV x y=nv∨∃ w,partV x y=fl w:=by
 unfold partV
 cases FloatKind.f64.format.add (FloatKind.nearest .f64 (x:Int)) (FloatKind.nearest .f64 (y:Int)) with
 | none=>exact .inl rfl
 | some s =>
   dsimp only
   unfold quoV
   cases FloatKind.f64.format.div (FloatKind.nearest .f64 (x:Int)) s with
   | none=>exact .inl rfl
   | some w=>exact .inr ⟨w,rfl⟩
theorem share_ok (L:List Nat) (h:OkL L) (s t:List UInt8):AaB APs Afv [.agg (cl L),.str s,.str t] (partV (getV L s) (getV L t)):=by
 have h1:=Afr L h s
 have h2:=Afr L h t
 have h3:=Bcx (getV L s) (getV L t)
 obtain⟨c0,c1,c2,c3,c4,c5,c6,c7,c8,c9,c10,c11,c12,c13,hL⟩:=of14 h
 refine Aaq (af:=Adk) rfl rfl ?_
 have h4:=AlZ (getV L s) (getV L t)
 generalize partV (getV L s) (getV L t)=v at *
 generalize getV L s=n at *
 generalize getV L t=m at *
 subst hL
 rcases h4 with rfl | ⟨w,rfl⟩<;>(refine Aac (Aad (Aaa 2 rfl (Aab (Aac (Aad (Aaa 2 rfl ?_))))));refine Aaf rfl rfl (h1) rfl rfl rfl rfl rfl rfl ?_;refine Aaa 5 rfl (Aab (Aac (Aad (Aaa 2 rfl ?_))));refine Aaf rfl rfl (h2) rfl rfl rfl rfl rfl rfl ?_;refine Aaa 5 rfl (Aab (Aac (Aad (Aaa 2 rfl ?_))));refine Aaf rfl rfl (h3) rfl rfl rfl rfl rfl rfl ?_;refine Aaa 1 rfl (Aab ?_);exact Aay (retd rfl ⟨_,AaA rfl⟩))
end Go.Eng.St
namespace Go.Eng.St
open Go Go.Eng
variable [Inhabited GlobT]
attribute [local irreducible] OpR TL TD TC TS AaB
theorem list_ok (L:List Nat) (h:OkL L):AaB APs ApO [.agg (cl L)] (.imm (L.map fun x=>[u6 x])):=by
 obtain⟨c0,c1,c2,c3,c4,c5,c6,c7,c8,c9,c10,c11,c12,c13,rfl⟩:=of14 h
 refine Aaq (af:=AkV) rfl rfl ?_
 refine Aac (Aad (Aaa 2 rfl (Aab (Aac (Aad (Aaa 28 rfl ?_))))))
 refine Aae (Abc rfl rfl rfl) rfl rfl rfl rfl ?_;refine Aaa 1 rfl (Aab ?_);exact Aay (AlU rfl rfl)
theorem Amf (x y:Nat) (hx:x<18446744073709551616) (hy:y<18446744073709551616):AaB APs Aes [u6 x,u6 y] (u6 (satN x y)):=by
 refine Aaq (af:=AiD) rfl rfl ?_
 by_cases c:x+y<18446744073709551616
 ·rw [show satN x y=x+y from if_neg (by omega)]
  refine Aac (Aad (Aaa 1 rfl (Aab (Aac (Aac (Aad ?_))))))
  refine Aaa 2 rfl ?_;refine Aae (AtG rfl rfl (Acj (by omega))) rfl rfl rfl rfl ?_;refine Aaa 2 rfl (Aab ?_)
  rw [show decide (((x+y:Nat):Int)<(x:Int))=false from decide_eq_false (by omega)]
  refine AaC (t:=false) rfl (fun h=>nomatch h) (fun _=>?_);refine Aas (Aac (Aad (Aaa 2 rfl ?_)))
  refine Aae (AtG rfl rfl (Acj (by omega))) rfl rfl rfl rfl ?_;refine Aaa 1 rfl (Aab ?_)
  exact Aay (retd rfl ⟨_,AaA rfl⟩)
 ·rw [show satN x y=18446744073709551615 from if_pos (by omega)]
  refine Aac (Aad (Aaa 1 rfl (Aab (Aac (Aac (Aad ?_))))))
  refine Aaa 2 rfl ?_
  refine Aae (Aar (v:=u6 (x+y - 18446744073709551616)) rfl rfl (by
   show some (AVal.int .u64 (IntKind.u64.wrap ((x:Int)+(y:Int))))=_
   rw [show IntKind.u64.wrap ((x:Int)+(y:Int))=((x+y - 18446744073709551616:Nat):Int) by simp [IntKind.wrap,IntKind.signed,IntKind.bits];omega])) rfl rfl rfl rfl ?_
  refine Aaa 2 rfl (Aab ?_)
  rw [show decide (((x+y - 18446744073709551616:Nat):Int)<(x:Int))=true from decide_eq_true (by omega)]
  refine AaC (t:=true) rfl (fun _=>?_) (fun h=>nomatch h);refine Aac (Aad (Aaa 1 rfl (Aab ?_)))
  exact Aay (retd rfl ⟨_,AaA rfl⟩)
end Go.Eng.St
namespace Go.Eng.St
open Go Go.Eng Ieee
variable [Inhabited GlobT]
attribute [local irreducible] OpR TL TD TC TS AaB
end Go.Eng.St
namespace Go.Eng.St
open Go Go.Eng
variable [Inhabited GlobT]
attribute [local irreducible] OpR TL TD TC TS AaB
def kill (v:AVal) (S:Aak):Aak:=match v with
 | .view b _ _ _=>S.set b none
 | _=>S
def fpA (v:AVal) (slot:Nat):FP:=match v with
 | .view b _ _ _=>([b],[b,slot])
 | _=>([],[slot])
theorem o_acc {AP:AaF} {m:FM} {slot:Nat} {S:Aak} {k sz bytes:Nat} {x y:AOpd} {v vy:AVal} {rows new:List (List AVal)} (hx:lo m x=some v) (hy:lo m y=some vy) (hacc:Acc k sz S v rows) (hr:rowsOf sz vy = .ok new) (hne:new≠[])
 (hst:(new.all fun r=>r.all storable)=true) (hb:(rows.length+new.length)*bytes≤17592186044416) :
 OpR AP m slot S (.append sz bytes x y) (.view slot 0 (rows.length+new.length) false) ((kill v S).set slot (some ⟨sz,rows++new⟩)) (fpA v slot):=by
 rcases hacc with⟨rfl,rfl⟩ | ⟨h1,b,h2,rfl,h4⟩
 ·have:=Ajm (AP:=AP) (slot:=slot) (S:=S) (bytes:=bytes) hx hy hr hne (by simpa using hb)
  rw [List.length_nil,Nat.zero_add,List.nil_append]
  exact this
 ·exact Ajl hx hy hr hne h4 rfl hb hst
def SepV (v w:AVal):Prop:=∀ b o l f,v = .view b o l f→∀ o' l' f',w ≠ .view b o' l' f'
theorem acc_kill {k sz:Nat} {S:Aak} {v w:AVal} {rows:List (List AVal)} (h:Acc k sz S w rows) (hs:SepV v w):Acc k sz (kill v S) w rows:=by
 rcases h with h | ⟨h1,b,h2,h3,h4⟩
 ·exact .inl h
 ·refine .inr ⟨h1,b,h2,h3,?_⟩
  unfold kill
  split
  ·rename_i b' o l f
   rw [Aat,if_neg]
   ·exact h4
   ·intro e
    exact hs b' o l f rfl 0 rows.length false (by rw [h3,e.1])
  ·exact h4
theorem kill_get {k sz:Nat} {S T:Aak} {v:AVal} {rows:List (List AVal)} (h:Acc k sz S v rows) {j:Nat} (hj:j<k):(kill v T)[j]?=T[j]?:=by
 rcases h with⟨rfl,_⟩ | ⟨h1,b,h2,rfl,h4⟩
 ·rfl
 ·show (T.set b none)[j]?=_
  rw [Aat,if_neg (by omega)]
theorem kill_len (v:AVal) (S:Aak):(kill v S).length=S.length:=by unfold kill;split<;>simp
theorem bandNotJ (a b:BitVec 64):abin .andNot (.int .u64 a.toNat) (.int .u64 b.toNat)=some (.int .u64 (a &&& ~~~b).toNat):=by
 show some (AVal.int .u64 (IntKind.u64.wrap (BitVec.ofInt 64 a.toNat &&& ~~~BitVec.ofInt 64 b.toNat).toNat))=_
 rw [AbR,AbR,AsI]
theorem andNot_top {w:Nat} (h:W64 w):abin .andNot (u6 w) (.int .u64 9223372036854775808)=some (u6 (w%9223372036854775808)):=by
 have h1:=bandNotJ (BitVec.ofNat 64 w) (BitVec.ofNat 64 9223372036854775808)
 have h2:(BitVec.ofNat 64 w).toNat=w:=by rw [BitVec.toNat_ofNat];exact Nat.mod_eq_of_lt h
 have h3:(BitVec.ofNat 64 w &&& ~~~BitVec.ofNat 64 9223372036854775808).toNat=w%9223372036854775808:=by
  rw [BitVec.toNat_and,h2]
  exact Nat.and_two_pow_sub_one_eq_mod w 63
 rw [h2,h3] at h1
 exact h1
theorem abs_ok {w:Nat} (h:W64 w):AaB APs BaO [fl w] (fl (fR w)):=by
 refine Aaq (af:=Aqa) rfl rfl ?_
 refine Aac (Aad (Aaa 1 rfl (Aab (Aac (Aad (Aaa 2 rfl ?_))))))
 refine Aae (Aar (v:=u6 (w%9223372036854775808)) rfl rfl (andNot_top h)) rfl rfl rfl rfl ?_
 trace_state
 refine Aaa 2 rfl (Aab ?_);exact Aay (retd rfl ⟨_,AaA rfl⟩)
end Go.Eng.St
namespace Go.Eng.St
open Go Go.Eng
variable [Inhabited GlobT]
attribute [local irreducible] OpR TL TD TC TS AaB
def freeN (P Q:List Nat):Nat→Bool
 | 0=>true
 | i+1=>freeN P Q i && decide (P.getD i 0+Q.getD i 0<18446744073709551616)
def rowsN (f:Nat→Nat→Nat) (P Q:List Nat) (i:Nat):List (List AVal):=(List.range i).map fun j=>[u6 (f (P.getD j 0) (Q.getD j 0))]
theorem rowsN_succ (f:Nat→Nat→Nat) (P Q:List Nat) (i:Nat):rowsN f P Q (i+1)=rowsN f P Q i++[[u6 (f (P.getD i 0) (Q.getD i 0))]]:=by
 unfold rowsN;rw [List.range_succ,List.map_append];rfl
theorem rowsN_len (f:Nat→Nat→Nat) (P Q:List Nat) (i:Nat):(rowsN f P Q i).length=i:=by unfold rowsN;simp
theorem rowsN_all (f:Nat→Nat→Nat) (P Q:List Nat):rowsN f P Q 14=(allL f P Q).map fun x=>[u6 x]:=by
 unfold rowsN allL;rw [List.map_map];rfl
def base4 (P Q:List Nat) (S:Aak):Prop:=S[0]?=some (some ⟨14,[cl P]⟩)∧S[1]?=some (some ⟨14,[cl Q]⟩)∧S[2]?=some (some ⟨14,[cl P]⟩)∧S[3]?=some (some ⟨14,[cl Q]⟩)
theorem wrap_u64n {n:Nat} (h:n<18446744073709551616):IntKind.u64.wrap (n:Int)=(n:Int):=by
 simp [IntKind.wrap,IntKind.bits,IntKind.signed];omega
theorem wrap_add (x y:Nat):abin .add (u6 x) (u6 y)=some (u6 ((x+y)%18446744073709551616)):=by
 show some (AVal.int .u64 (IntKind.u64.wrap ((x:Int)+(y:Int))))=_
 rw [show IntKind.u64.wrap ((x:Int)+(y:Int))=(((x+y)%18446744073709551616:Nat):Int) by simp [IntKind.wrap,IntKind.bits,IntKind.signed]]
theorem sat_comm {P Q:List Nat} (h:OkL P) (g:OkL Q):allL satN Q P=allL satN P Q:=by
 unfold allL
 refine List.map_congr_left fun j _=>?_
 have:=h.get j
 have:=g.get j
 unfold satN
 split<;>split<;>omega
theorem free_get {P Q:List Nat}:∀ i,freeN P Q i=true→∀ j,j<i→P.getD j 0+Q.getD j 0<18446744073709551616
 | 0,_,j,hj=>absurd hj (by omega)
 | i+1,h,j,hj=>by
   obtain⟨h1,h2⟩:=Bool.and_eq_true_iff.1 h
   rcases Nat.lt_or_ge j i with g | g
   ·exact free_get i h1 j g
   ·rw [show j=i by omega];exact of_decide_eq_true h2
theorem free_back {P Q:List Nat} (h:OkL P) (hf:freeN P Q 14=true):allL subN (allL satN P Q) Q=P:=by
 have e:=Aps (f:=subN) (M:=Q) h
 refine Eq.trans ?_ e
 rw [show allL subN (allL satN P Q) Q=(List.range 14).map fun j=>subN ((allL satN P Q).getD j 0) (Q.getD j 0) from rfl]
 unfold AgD
 refine List.map_congr_left fun j hj=>?_
 have hj:=List.mem_range.1 hj
 have:=free_get 14 hf j hj
 rw [if_neg (by omega),←Att,Ajj hj,if_pos hj]
 unfold subN satN
 split<;>omega
def sentS:List UInt8:=[115,101,110,116]
def lostS:List UInt8:=[108,111,115,116]
theorem joins_val {n m:Nat} (hn:n<18446744073709551616) (hm:m<18446744073709551616) (h0:0<n+m) :
 ∃ X Y Z g d,partV n m=fl X∧partV m n=fl Y∧abin .add (fl X) (fl Y)=some (fl Z)∧abin .sub (fl Z) (fl 4607182418800017408)=some (fl (fword g d))∧W64 (fword g d)∧fR (fword g d)=d ∧
  (FloatKind.f64.format.order d 4427486594234968593 == some .lt)=true∧(FloatKind.f64.format.order X 0 == some .gt || FloatKind.f64.format.order X 0 == some .eq)=true∧(FloatKind.f64.format.order X 4607182418800017408 == some .lt || FloatKind.f64.format.order X 4607182418800017408 == some .eq)=true:=by
 obtain⟨s,t,X,Y,Z,g,d,h1,h2,h3,h4,h5,h6,h7,h8,h9,h10⟩:=shares_sum hn hm h0
 have hX:X≤infR:=by unfold infR;omega
 have hd:d≤infR:=by unfold infR;omega
 have w1:=Azk (s:=false) hX
 have ew:∀ r,fword false r=r:=fun r=>rfl
 refine⟨fword false X,fword false Y,fword false Z,g,d,?_,?_,?_,?_,Azk hd,fR_word hd,?_,?_,?_⟩
 ·unfold partV;rw [h1];dsimp only;unfold quoV;rw [h3];rfl
 ·unfold partV;rw [h2];dsimp only;unfold quoV;rw [h4];rfl
 ·show afltop .add .f64 _ _=_
  unfold afltop;rw [h7];rfl
 ·show afltop .sub .f64 _ _=_
  unfold afltop;rw [h9];rfl
 ·have:=Azk (s:=false) hd
  rw [←ew d,fo_lt this (by omega),fN_word hd]
  unfold fK
  rw [fS_word hd,fR_word hd,show fN 4427486594234968593=false by decide,show fS 4427486594234968593=false by decide,show fR 4427486594234968593=4427486594234968593 by decide]
  simp;omega
 ·rw [fo_ge w1 (by omega),fN_word hX]
  unfold fK
  rw [fS_word hX,fR_word hX,show fN 0=false by decide,show fS 0=false by decide,show fR 0=0 by decide]
  simp
 ·rw [fo_le w1 (by omega),fN_word hX]
  unfold fK
  rw [fS_word hX,fR_word hX,show fN 4607182418800017408=false by decide,show fS 4607182418800017408=false by decide,show fR 4607182418800017408=4607182418800017408 by decide]
  simp;omega
theorem joins_none:partV 0 0=nv:=by
 have:FloatKind.f64.format.add (FloatKind.nearest .f64 ((0:Nat):Int)) (FloatKind.nearest .f64 ((0:Nat):Int))=some 0:=by decide+kernel
 unfold partV
 rw [this]
 dsimp only
 unfold quoV
 rw [show FloatKind.f64.format.div (FloatKind.nearest .f64 ((0:Nat):Int)) 0=none by decide+kernel]
 rfl
theorem sep_new {k sz:Nat} {S:Aak} {w:AVal} {rows:List (List AVal)} (h:Acc k sz S w rows) {j o l:Nat} {f:Bool} (hj:S.length≤j):SepV (.view j o l f) w∧SepV w (.view j o l f):=by
 rcases h with⟨rfl,_⟩ | ⟨h1,b,h2,rfl,h4⟩
 ·exact⟨fun b o l f e o' l' f' e2=>(by cases e2),fun b o l f e=>(by cases e)⟩
 ·have:=(List.getElem?_eq_some_iff.1 h4).1
  exact⟨fun b o l f e o' l' f' e2=>(by cases e;cases e2;omega),fun b o l f e o' l' f' e2=>(by cases e;cases e2;omega)⟩
theorem grown {S:Aak} {v w:AVal} {A B:List (List AVal)} {r:List AVal} {P Q:List Nat} (hb:base4 P Q S) (hv:Acc 4 1 S v A) (hw:Acc 4 1 S w B) (hs:SepV v w) :
 ∃ T,(kill v (S++[none])).set S.length (some ⟨1,A++[r]⟩)=T∧base4 P Q T∧Acc 4 1 T (.view S.length 0 (A.length+1) false) (A++[r])∧Acc 4 1 T w B∧SepV (.view S.length 0 (A.length+1) false) w∧SepV w (.view S.length 0 (A.length+1) false):=by
 have hlen:4≤S.length:=by have:=(List.getElem?_eq_some_iff.1 hb.2.2.2).1;omega
 have hg:∀ j,j<4→((kill v (S++[none])).set S.length (some ⟨1,A++[r]⟩))[j]?=S[j]?:=fun j hj=>by
  rw [Aat,if_neg (by omega),kill_get hv hj,List.getElem?_append_left (by omega)]
 obtain⟨b0,b1,b2,b3⟩:=hb
 refine⟨_,rfl,⟨by rw [hg 0 (by omega)];exact b0,by rw [hg 1 (by omega)];exact b1,by rw [hg 2 (by omega)];exact b2,by rw [hg 3 (by omega)];exact b3⟩,?_,?_,sep_new hw (Nat.le_refl _)⟩
 ·refine .inr ⟨by simp,S.length,hlen,by simp,?_⟩
  rw [Aat,if_pos ⟨rfl,by rw [kill_len];simp⟩]
 ·have h1:=acc_kill (hw.snoc [none]) hs
  rcases hw with h | ⟨g1,b,g2,g3,g4⟩
  ·exact .inl h
  ·have hb:=(List.getElem?_eq_some_iff.1 g4).1
   rcases h1 with⟨e,_⟩ | ⟨k1,b',k2,k3,k4⟩
   ·rw [g3] at e;cases e
   ·refine .inr ⟨g1,b',k2,k3,?_⟩
    have:b=b':=by rw [g3] at k3;cases k3;rfl
    rw [Aat,if_neg (by omega)];exact k4
theorem joins_law (P Q:List Nat) (h:OkL P) (g:OkL Q):AaB APs f_l34_StatJoins [.agg (cl P),.agg (cl Q)] (.bool true):=by
 have r1:=of_ok P h
 have r2:=of_ok Q g
 have r3:=list_ok P h
 have r4:=list_ok Q g
 have hp:=h.1
 have hq:=g.1
 refine Aaq (af:=c_l34_StatJoins) rfl rfl ?_
 refine Aac (Aad ?_);refine Abm (AcN rfl (by simp;omega)) rfl rfl rfl rfl ?_
 refine Abm (AcN rfl (by simp;omega)) rfl rfl rfl rfl ?_;refine Aaa 1 rfl (Aab (Aac (Aac ?_)))
 refine Aad (Aaa 2 rfl (Aab ?_));refine AaC (t:=false) rfl (fun h=>nomatch h) (fun _=>?_);refine Aas ?_
 refine Aac ?_;refine AbO [none,none] rfl ?_;refine Aai rfl rfl (Abs rfl rfl (by simp;omega)) ?_
 refine Aao rfl (by simp [AVal.closed,AaH,AaX,AaL,Abj]) (r1) (by simp [AVal.noref,AVal.flat,norefL,Abo,AbG,AbZ]) rfl rfl rfl rfl ?_
 refine Aai rfl rfl (Abs rfl rfl (by simp;omega)) ?_
 refine Aao rfl (by simp [AVal.closed,AaH,AaX,AaL,Abj]) (r2) (by simp [AVal.noref,AVal.flat,norefL,Abo,AbG,AbZ]) rfl rfl rfl rfl ?_
 refine Aah 2 rfl ?_;refine Aai rfl rfl (Abd rfl rfl rfl (by simp) (by simp;omega) (AaI (fun _=>rfl) _)) ?_
 refine Aai rfl rfl (Abd rfl rfl rfl (by simp) (by simp;omega) (AaI (fun _=>rfl) _)) ?_;refine AaD ?_;refine⟨rfl,?_⟩
 refine Aac ?_;refine Abk ?_;refine AaE rfl ?_;refine Aai rfl rfl (Abs rfl rfl (by simp;omega)) ?_
 refine Aao rfl (by simp [AVal.closed,AaH,AaX,AaL,Abj]) (r3) (by simp [AVal.noref,AVal.flat,norefL,Abo,AbG,AbZ]) rfl rfl rfl rfl ?_
 refine Aai rfl rfl (Abs rfl rfl (by simp;omega)) ?_;refine AaD ?_;refine⟨rfl,?_⟩;refine Aan ?_
 refine Aaf rfl (by simp [AVal.closed,AaH,AaX,AaL,Abj]) (r4) (by simp [AVal.noref,AVal.flat,norefL,Abo,AbG,AbZ]) rfl rfl rfl rfl rfl ?_
 refine Aab ?_;refine Aan ?_;refine Aaa 1 rfl (Aab ?_);refine Aan ?_;refine Aaa 1 rfl (Aab ?_)
 refine AcB ?_;refine Aac (Aad (Aaa 2 rfl (Aab (Aac (Aad ?_)))))
 refine Aaa 1 rfl (Aab (Aac (Aac (Aad (Aaa 3 rfl (Aab ?_))))))
 rw [show (P.map fun x=>[u6 x]).length=14 by rw [List.length_map,hp]]
 refine Aaj (AaJ (σ:=Nat × AVal × AVal) (fun s=>14 - s.1) (fun s=>[(2,.ptr 0 0 0),(3,.ptr 1 0 0),(4,.bool false),(5,.ptr 2 0 0),(6,.ptr 3 0 0),(7,.imm (P.map fun x=>[u6 x])),(8,.imm (Q.map fun x=>[u6 x])),(9,s.2.1),(10,s.2.2),(11,.bool (freeN P Q s.1)),(26,.int .i64 (14:Int)),(27,.int .i64 (s.1:Int))])
  (fun s S=>s.1≤14∧base4 P Q S∧Acc 4 1 S s.2.1 (rowsN satN P Q s.1)∧Acc 4 1 S s.2.2 (rowsN subN P Q s.1)∧SepV s.2.1 s.2.2∧SepV s.2.2 s.2.1) (0,.nils,.nils) (by (repeat' (first | exact Aav | refine Aal rfl ?_))) ⟨by decide,⟨rfl,rfl,rfl,rfl⟩,Ayg,Ayg,by (intro b o l f h;cases h),by (intro b o l f h;cases h)⟩ ?_)
 rintro⟨i,sv,lv⟩ S ⟨hi,⟨b0,b1,b2,b3⟩,hs,hl,s1,s2⟩
 dsimp only at hi hs hl s1 s2 ⊢
 refine Aac (Aad (Aaa 1 rfl (Aab (Aac ?_))))
 refine Aax rfl decide_eq_true_iff (fun c=>Aas ?_) (fun c=>AaG ?_)
 ·have hi':i<14:=by omega
  have l1:=Amf (P.getD i 0) (Q.getD i 0) (h.get i) (g.get i)
  have hiP:i<P.length:=by omega
  have hiQ:i<Q.length:=by omega
  refine Aac ?_;refine Aaj ?_;refine Aac (Aad (Aaa 2 rfl (Aab (Aac ?_))))
  refine AbO [none] rfl ?_;refine Aai rfl rfl (AbM rfl) ?_;refine Aah 2 rfl ?_
  refine Aai rfl rfl (Aby rfl rfl (Abb (d:=0) (by omega)) rfl) ?_;refine Aah 3 rfl ?_
  refine Aai rfl rfl (Aby rfl rfl (Abb (d:=0) (by omega)) rfl) ?_;refine Aah 1 rfl ?_
  refine Aao rfl rfl (l1) rfl rfl rfl rfl rfl ?_;refine Aai rfl rfl (Abc rfl rfl rfl) ?_
  refine Aai rfl rfl (o_acc rfl rfl (hs.snoc [none]) rfl (by simp) rfl (by rw [rowsN_len];simp;omega)) ?_
  refine Aah 1 rfl (AaD ?_);refine⟨rfl,?_⟩;refine Aac ?_;refine AbO [none] rfl ?_;refine Aai rfl rfl (AbM rfl) ?_
  refine Aah 2 rfl ?_;refine Aai rfl rfl (Aby rfl rfl (Abb (d:=0) (by omega)) rfl) ?_;refine Aah 3 rfl ?_
  refine Aai rfl rfl (Aby rfl rfl (Abb (d:=0) (by omega)) rfl) ?_;refine Aah 3 rfl ?_
  refine Aai rfl rfl (Aby rfl rfl (Abb (d:=0) (by omega)) rfl) ?_;refine Aah 1 rfl ?_;refine Aai rfl rfl (BcT rfl rfl) ?_
  obtain⟨T,hT,⟨b0,b1,b2,b3⟩,hs,hl,s1,s2⟩:=grown (r:=[u6 (satN (P.getD i 0) (Q.getD i 0))]) ⟨b0,b1,b2,b3⟩ hs hl s1
  rw [hT]
  rw [←rowsN_succ] at hs
  generalize AVal.view S.length 0 ((rowsN satN P Q i).length+1) false=sv' at *
  refine Aai rfl rfl (BcO rfl rfl (by omega) (wrap_u64n (by have:=h.get i;omega))) ?_
  refine Aai rfl rfl (Abc rfl rfl rfl) ?_
  refine Aai rfl rfl (o_acc rfl rfl (hl.snoc [none]) rfl (by simp) rfl (by rw [rowsN_len];simp;omega)) ?_
  refine Aah 1 rfl (AaD ?_);refine⟨rfl,?_⟩;refine AaS rfl ?_;refine Aah 2 rfl ?_
  obtain⟨U,hU,hb,hl,hs,s2,s1⟩:=grown (r:=[u6 (P.getD i 0 - min (P.getD i 0) (Q.getD i 0))]) ⟨b0,b1,b2,b3⟩ hl hs s2
  rw [hU]
  rw [show P.getD i 0 - min (P.getD i 0) (Q.getD i 0)=subN (P.getD i 0) (Q.getD i 0) by unfold subN;omega] at hl
  rw [←rowsN_succ] at hl
  generalize AVal.view T.length 0 ((rowsN subN P Q i).length+1) false=lv' at *
  have hfr:freeN P Q (i+1)=(freeN P Q i && decide (P.getD i 0+Q.getD i 0<18446744073709551616)):=rfl
  cases hf:freeN P Q i
  ·rw [hf,Bool.false_and] at hfr
   refine Aah 8 rfl ?_
   refine Aah 7 rfl ?_
   refine Aah 1 rfl (AaD ?_);refine⟨rfl,?_⟩;refine Aad ?_;refine Aae (AaK (b:=1) rfl rfl (by omega)) rfl rfl rfl rfl ?_
   refine Aaa 1 rfl (Aab ?_)
   exact⟨(i+1,sv',lv'),by omega,by rw [hfr];(repeat' (first | exact Aav | refine Aal rfl ?_)),by omega,hb,hs,hl,s1,s2⟩
  ·rw [hf,Bool.true_and] at hfr
   refine Aah 2 rfl ?_;refine Aai rfl rfl (Aby rfl rfl (Abb (d:=0) (by omega)) rfl) ?_;refine Aah 3 rfl ?_
   refine Aai rfl rfl (Aby rfl rfl (Abb (d:=0) (by omega)) rfl) ?_;refine Aah 1 rfl ?_
   refine Aai rfl rfl (Aar (v:=u6 ((P.getD i 0+Q.getD i 0)%18446744073709551616)) rfl rfl (wrap_add _ _)) ?_
   refine Aah 2 rfl ?_;refine Aai rfl rfl (Aby rfl rfl (Abb (d:=0) (by omega)) rfl) ?_;refine Aah 4 rfl (AaD ?_)
   refine⟨rfl,?_⟩;refine Aad ?_;refine Aae (AaK (b:=1) rfl rfl (by omega)) rfl rfl rfl rfl ?_;refine Aaa 1 rfl (Aab ?_)
   rw [show decide ((((P.getD i 0+Q.getD i 0)%18446744073709551616:Nat):Int)≥((P.getD i 0:Nat):Int))=decide (P.getD i 0+Q.getD i 0<18446744073709551616) from decide_eq_decide.2 (by have:=h.get i;have:=g.get i;omega)]
   exact⟨(i+1,sv',lv'),by omega,by rw [hfr];(repeat' (first | exact Aav | refine Aal rfl ?_)),by omega,hb,hs,hl,s1,s2⟩
 ·have:i=14:=by omega
  subst this
  rw [rowsN_all] at hs hl
  have hS:=allL_ok (M:=Q) (fun x y hx=>Akf (y:=y) hx) h
  have hD:=allL_ok (M:=Q) (fun x y hx=>show subN x y<_ by unfold subN;omega) h
  have j1:=join_ok P Q h g
  have j2:=less_ok P Q h g
  have j3:=join_ok Q P g h
  have j4:=less_ok (allL satN P Q) Q hS g
  rw [sat_comm h g] at j3
  have k1:=is_ok _ hS
  have k2:=is_ok _ hD
  have k3:=is_ok P h
  have cS:=cr_closed (allL satN P Q)
  have cD:=cr_closed (allL subN P Q)
  have fs:∀ X:List Nat,FrzL S [.agg (cl X),sv] [.agg (cl X),.imm ((allL satN P Q).map fun x=>[u6 x])]:=fun X=>Aeq (fun n=>⟨_,AaA (by simp [AVal.closed])⟩) (Aeq (fun n=>hs.frz cS) Ajs)
  have fd:∀ X:List Nat,FrzL S [.agg (cl X),lv] [.agg (cl X),.imm ((allL subN P Q).map fun x=>[u6 x])]:=fun X=>Aeq (fun n=>⟨_,AaA (by simp [AVal.closed])⟩) (Aeq (fun n=>hl.frz cD) Ajs)
  refine Aac (Aac ?_);refine Abk ?_;refine AaE rfl ?_;refine Aai rfl rfl (Abs rfl b2 (by simp;omega)) ?_
  refine Aai rfl rfl (Abs rfl b3 (by simp;omega)) ?_
  refine Aao rfl (by simp [AVal.closed,AaH,AaX,AaL,Abj]) (j1) (by simp [AVal.noref,AVal.flat,norefL,Abo,AbG,AbZ]) rfl rfl rfl rfl ?_
  refine Aai rfl rfl (AbM rfl) ?_;refine AaD ?_;refine⟨rfl,?_⟩;refine Aan ?_
  refine AiP rfl (fs _) k1 (Bool.or_true _) rfl rfl rfl rfl rfl ?_
  refine Aab ?_;refine Aan ?_;refine Aaa 1 rfl (Aab ?_);refine Aan ?_;refine Aaa 1 rfl (Aab ?_)
  refine AaE rfl ?_;refine Aai rfl rfl (Abs rfl b2 (by simp;omega)) ?_;refine Aai rfl rfl (Abs rfl b3 (by simp;omega)) ?_
  refine Aao rfl (by simp [AVal.closed,AaH,AaX,AaL,Abj]) (j2) (by simp [AVal.noref,AVal.flat,norefL,Abo,AbG,AbZ]) rfl rfl rfl rfl ?_
  refine Aai rfl rfl (AbM rfl) ?_;refine AaD ?_;refine⟨rfl,?_⟩;refine Aan ?_
  refine AiP rfl (fd _) k2 (Bool.or_true _) rfl rfl rfl rfl rfl ?_
  refine Aab ?_;refine Aan ?_;refine Aaa 1 rfl (Aab ?_);refine Aan ?_;refine Aaa 1 rfl (Aab ?_)
  refine Aan ?_;refine Aaa 1 rfl (Aab ?_);refine AaE rfl ?_;refine Aai rfl rfl (Abs rfl b3 (by simp;omega)) ?_
  refine Aai rfl rfl (Abs rfl b2 (by simp;omega)) ?_
  refine Aao rfl (by simp [AVal.closed,AaH,AaX,AaL,Abj]) (j3) (by simp [AVal.noref,AVal.flat,norefL,Abo,AbG,AbZ]) rfl rfl rfl rfl ?_
  refine Aai rfl rfl (AbM rfl) ?_;refine AaD ?_;refine⟨rfl,?_⟩;refine Aan ?_
  refine AiP rfl (fs _) k1 (Bool.or_true _) rfl rfl rfl rfl rfl ?_
  have x1:=share_ok P h sentS lostS
  have x2:=share_ok P h lostS sentS
  rw [(show getV P sentS=P.getD 9 0 from(AcX P (i:=9) (by omega)).1),(show getV P lostS=P.getD 10 0 from(AcX P (i:=10) (by omega)).1)] at x1 x2
  have n9:=h.get 9
  have n10:=h.get 10
  unfold sentS lostS at x1 x2
  clear k1 k2 fs fd hs hl j2 j3
  have hx:(P.getD 9 0=0∧P.getD 10 0=0)∨0<P.getD 9 0+P.getD 10 0:=by omega
  rcases hx with⟨z1,z2⟩ | z
  ·rw [z1,z2,joins_none] at x1 x2
   cases hf:freeN P Q 14
   ·refine Aab ?_;refine Aan ?_;refine Aaa 1 rfl (Aab ?_);refine Aan ?_;refine Aaa 1 rfl (Aab ?_)
    refine Aan ?_;refine Aaa 1 rfl (Aab ?_);refine Aan ?_;refine Aaa 1 rfl (Aab ?_);refine Aan ?_
    refine Aaa 1 rfl (Aab ?_);refine AaE rfl ?_;refine Aah 6 rfl (AaD ?_);refine⟨rfl,?_⟩;refine Aan ?_
    refine Aaa 1 rfl (Aab ?_);refine Aan ?_;refine Aaa 1 rfl (Aab ?_);refine Aan ?_;refine Aaa 1 rfl ?_
    refine Aab ?_;refine Aan ?_;refine Aaa 1 rfl (Aab ?_);refine AcB ?_
    refine AaC (t:=false) rfl (fun h=>nomatch h) (fun _=>?_);refine Aas (Aac ?_);refine Abk ?_;refine AaE rfl ?_
    refine Aai rfl rfl (Abs rfl b2 (by simp;omega)) ?_
    refine Aao rfl (by simp [AVal.closed,AaH,AaX,AaL,Abj]) (x1) (by simp [AVal.noref,AVal.flat,norefL,Abo,AbG,AbZ]) rfl rfl rfl rfl ?_
    refine Aai rfl rfl (Abs rfl b2 (by simp;omega)) ?_;refine AaD ?_;refine⟨rfl,?_⟩;refine Aan ?_
    refine Aaf rfl (by simp [AVal.closed,AaH,AaX,AaL,Abj]) (x2) (by simp [AVal.noref,AVal.flat,norefL,Abo,AbG,AbZ]) rfl rfl rfl rfl rfl ?_
    refine Aab ?_;refine Aan ?_;refine Aaa 1 rfl (Aab ?_);refine Aan ?_;refine Aaa 1 rfl (Aab ?_)
    refine AcB ?_;refine Aac (Aac (Aad (Aaa 1 rfl ?_)))
    refine Aae (Abe 0 rfl b0 (by omega)) rfl rfl rfl rfl ?_;refine Aaa 2 rfl ?_
    rw [show (((P.getD (0+9) 0:Nat):Int) == 0)=true from beq_iff_eq.2 (by rw [show P.getD (0+9) 0=0 from z1];rfl)]
    refine Aaa 1 rfl ?_;refine Aae (Abe 0 rfl b0 (by omega)) rfl rfl rfl rfl ?_;refine Aaa 2 rfl (Aab ?_)
    rw [show (((P.getD (0+10) 0:Nat):Int) == 0)=true from beq_iff_eq.2 (by rw [show P.getD (0+10) 0=0 from z2];rfl)]
    refine AaC (t:=true) rfl (fun _=>?_) (fun h=>nomatch h);refine Aac (Aad (Aaa 9 rfl (Aab ?_)))
    exact Aay (retd rfl ⟨_,AaA rfl⟩)
   ·rw [free_back h hf] at j4
    refine Aab ?_;refine Aan ?_;refine Aaa 1 rfl (Aab ?_);refine Aan ?_;refine Aaa 1 rfl (Aab ?_)
    refine Aan ?_;refine Aaa 1 rfl (Aab ?_);refine Aan ?_;refine Aaa 1 rfl (Aab ?_);refine Aan ?_
    refine Aaa 1 rfl (Aab ?_);refine AaE rfl ?_;refine Aai rfl rfl (Abs rfl b2 (by simp;omega)) ?_
    refine Aai rfl rfl (Abs rfl b3 (by simp;omega)) ?_
    refine Aao rfl (by simp [AVal.closed,AaH,AaX,AaL,Abj]) (j1) (by simp [AVal.noref,AVal.flat,norefL,Abo,AbG,AbZ]) rfl rfl rfl rfl ?_
    refine Aai rfl rfl (Abs rfl b3 (by simp;omega)) ?_
    refine Aao rfl (by simp [AVal.closed,AaH,AaX,AaL,Abj]) (j4) (by simp [AVal.noref,AVal.flat,norefL,Abo,AbG,AbZ]) rfl rfl rfl rfl ?_
    refine Aah 1 rfl (AaD ?_);refine⟨rfl,?_⟩;refine Aan ?_
    refine Aaf rfl (by simp [AVal.closed,AaH,AaX,AaL,Abj]) (k3) (by simp [AVal.noref,AVal.flat,norefL,Abo,AbG,AbZ]) rfl rfl rfl rfl rfl ?_
    refine Aab ?_;refine Aan ?_;refine Aaa 1 rfl (Aab ?_);refine Aan ?_;refine Aaa 1 rfl (Aab ?_)
    refine Aan ?_;refine Aaa 1 rfl (Aab ?_);refine AcB ?_;refine AaC (t:=false) rfl (fun h=>nomatch h) (fun _=>?_)
    refine Aas (Aac ?_);refine Abk ?_;refine AaE rfl ?_;refine Aai rfl rfl (Abs rfl b2 (by simp;omega)) ?_
    refine Aao rfl (by simp [AVal.closed,AaH,AaX,AaL,Abj]) (x1) (by simp [AVal.noref,AVal.flat,norefL,Abo,AbG,AbZ]) rfl rfl rfl rfl ?_
    refine Aai rfl rfl (Abs rfl b2 (by simp;omega)) ?_;refine AaD ?_;refine⟨rfl,?_⟩;refine Aan ?_
    refine Aaf rfl (by simp [AVal.closed,AaH,AaX,AaL,Abj]) (x2) (by simp [AVal.noref,AVal.flat,norefL,Abo,AbG,AbZ]) rfl rfl rfl rfl rfl ?_
    refine Aab ?_;refine Aan ?_;refine Aaa 1 rfl (Aab ?_);refine Aan ?_;refine Aaa 1 rfl (Aab ?_)
    refine AcB ?_;refine Aac (Aac (Aad (Aaa 1 rfl ?_)))
    refine Aae (Abe 0 rfl b0 (by omega)) rfl rfl rfl rfl ?_;refine Aaa 2 rfl ?_
    rw [show (((P.getD (0+9) 0:Nat):Int) == 0)=true from beq_iff_eq.2 (by rw [show P.getD (0+9) 0=0 from z1];rfl)]
    refine Aaa 1 rfl ?_;refine Aae (Abe 0 rfl b0 (by omega)) rfl rfl rfl rfl ?_;refine Aaa 2 rfl (Aab ?_)
    rw [show (((P.getD (0+10) 0:Nat):Int) == 0)=true from beq_iff_eq.2 (by rw [show P.getD (0+10) 0=0 from z2];rfl)]
    refine AaC (t:=true) rfl (fun _=>?_) (fun h=>nomatch h);refine Aac (Aad (Aaa 9 rfl (Aab ?_)))
    exact Aay (retd rfl ⟨_,AaA rfl⟩)
  ·obtain⟨X,Y,Z,e,d,v1,v2,v3,v4,v5,v6,v7,v8,v9⟩:=joins_val n9 n10 z
   have va:=abs_ok v5
   rw [v6] at va
   rw [v1] at x1
   rw [v2] at x2
   cases hf:freeN P Q 14
   ·by_cases y:P.getD 9 0=0
    ·refine Aab ?_;refine Aan ?_;refine Aaa 1 rfl (Aab ?_);refine Aan ?_;refine Aaa 1 rfl (Aab ?_)
     refine Aan ?_;refine Aaa 1 rfl (Aab ?_);refine Aan ?_;refine Aaa 1 rfl (Aab ?_);refine Aan ?_
     refine Aaa 1 rfl (Aab ?_);refine AaE rfl ?_;refine Aah 6 rfl (AaD ?_);refine⟨rfl,?_⟩;refine Aan ?_
     refine Aaa 1 rfl (Aab ?_);refine Aan ?_;refine Aaa 1 rfl (Aab ?_);refine Aan ?_;refine Aaa 1 rfl ?_
     refine Aab ?_;refine Aan ?_;refine Aaa 1 rfl (Aab ?_);refine AcB ?_
     refine AaC (t:=false) rfl (fun h=>nomatch h) (fun _=>?_);refine Aas (Aac ?_);refine Abk ?_;refine AaE rfl ?_
     refine Aai rfl rfl (Abs rfl b2 (by simp;omega)) ?_
     refine Aao rfl (by simp [AVal.closed,AaH,AaX,AaL,Abj]) (x1) (by simp [AVal.noref,AVal.flat,norefL,Abo,AbG,AbZ]) rfl rfl rfl rfl ?_
     refine Aai rfl rfl (Abs rfl b2 (by simp;omega)) ?_;refine AaD ?_;refine⟨rfl,?_⟩;refine Aan ?_
     refine Aaf rfl (by simp [AVal.closed,AaH,AaX,AaL,Abj]) (x2) (by simp [AVal.noref,AVal.flat,norefL,Abo,AbG,AbZ]) rfl rfl rfl rfl rfl ?_
     refine Aab ?_;refine Aan ?_;refine Aaa 1 rfl (Aab ?_);refine Aan ?_;refine Aaa 1 rfl (Aab ?_)
     refine AcB ?_;refine Aac (Aac (Aad (Aaa 1 rfl ?_)))
     refine Aae (Abe 0 rfl b0 (by omega)) rfl rfl rfl rfl ?_;refine Aaa 2 rfl ?_
     rw [show (((P.getD (0+9) 0:Nat):Int) == 0)=true from beq_iff_eq.2 (by rw [show P.getD (0+9) 0=0 from y];rfl)]
     refine Aaa 1 rfl ?_;refine Aae (Abe 0 rfl b0 (by omega)) rfl rfl rfl rfl ?_;refine Aaa 2 rfl (Aab ?_)
     rw [show (((P.getD (0+10) 0:Nat):Int) == 0)=false from beq_false_of_ne (by have:P.getD (0+10) 0≠0:=(by rw [y] at z;show P.getD 10 0≠0;omega);omega)]
     refine AaC (t:=false) rfl (fun h=>nomatch h) (fun _=>?_);refine Aas (Aac (Aad (Aaa 2 rfl ?_)))
     refine Aae (Aar rfl rfl v3) rfl rfl rfl rfl ?_
     refine Aae (Aar rfl rfl v4) rfl rfl rfl rfl ?_
     refine Aaf rfl rfl (va) rfl rfl rfl rfl rfl rfl ?_;refine Aaa 2 rfl ?_
     rw [v7]
     refine Aaa 4 rfl ?_
     rw [v8]
     refine Aaa 4 rfl (Aab ?_)
     rw [v9]
     exact Aay (retd rfl ⟨_,AaA rfl⟩)
    ·refine Aab ?_;refine Aan ?_;refine Aaa 1 rfl (Aab ?_);refine Aan ?_;refine Aaa 1 rfl (Aab ?_)
     refine Aan ?_;refine Aaa 1 rfl (Aab ?_);refine Aan ?_;refine Aaa 1 rfl (Aab ?_);refine Aan ?_
     refine Aaa 1 rfl (Aab ?_);refine AaE rfl ?_;refine Aah 6 rfl (AaD ?_);refine⟨rfl,?_⟩;refine Aan ?_
     refine Aaa 1 rfl (Aab ?_);refine Aan ?_;refine Aaa 1 rfl (Aab ?_);refine Aan ?_;refine Aaa 1 rfl ?_
     refine Aab ?_;refine Aan ?_;refine Aaa 1 rfl (Aab ?_);refine AcB ?_
     refine AaC (t:=false) rfl (fun h=>nomatch h) (fun _=>?_);refine Aas (Aac ?_);refine Abk ?_;refine AaE rfl ?_
     refine Aai rfl rfl (Abs rfl b2 (by simp;omega)) ?_
     refine Aao rfl (by simp [AVal.closed,AaH,AaX,AaL,Abj]) (x1) (by simp [AVal.noref,AVal.flat,norefL,Abo,AbG,AbZ]) rfl rfl rfl rfl ?_
     refine Aai rfl rfl (Abs rfl b2 (by simp;omega)) ?_;refine AaD ?_;refine⟨rfl,?_⟩;refine Aan ?_
     refine Aaf rfl (by simp [AVal.closed,AaH,AaX,AaL,Abj]) (x2) (by simp [AVal.noref,AVal.flat,norefL,Abo,AbG,AbZ]) rfl rfl rfl rfl rfl ?_
     refine Aab ?_;refine Aan ?_;refine Aaa 1 rfl (Aab ?_);refine Aan ?_;refine Aaa 1 rfl (Aab ?_)
     refine AcB ?_;refine Aac (Aac (Aad (Aaa 1 rfl ?_)))
     refine Aae (Abe 0 rfl b0 (by omega)) rfl rfl rfl rfl ?_;refine Aaa 2 rfl ?_
     rw [show (((P.getD (0+9) 0:Nat):Int) == 0)=false from beq_false_of_ne (by have:P.getD (0+9) 0≠0:=y;omega)]
     refine Aaa 4 rfl (Aab ?_);refine AaC (t:=false) rfl (fun h=>nomatch h) (fun _=>?_);refine Aas (Aac ?_)
     refine Aad (Aaa 2 rfl ?_)
     refine Aae (Aar rfl rfl v3) rfl rfl rfl rfl ?_
     refine Aae (Aar rfl rfl v4) rfl rfl rfl rfl ?_
     refine Aaf rfl rfl (va) rfl rfl rfl rfl rfl rfl ?_;refine Aaa 2 rfl ?_
     rw [v7]
     refine Aaa 4 rfl ?_
     rw [v8]
     refine Aaa 4 rfl (Aab ?_)
     rw [v9]
     exact Aay (retd rfl ⟨_,AaA rfl⟩)
   ·rw [free_back h hf] at j4
    by_cases y:P.getD 9 0=0
    ·refine Aab ?_;refine Aan ?_;refine Aaa 1 rfl (Aab ?_);refine Aan ?_;refine Aaa 1 rfl (Aab ?_)
     refine Aan ?_;refine Aaa 1 rfl (Aab ?_);refine Aan ?_;refine Aaa 1 rfl (Aab ?_);refine Aan ?_
     refine Aaa 1 rfl (Aab ?_);refine AaE rfl ?_;refine Aai rfl rfl (Abs rfl b2 (by simp;omega)) ?_
     refine Aai rfl rfl (Abs rfl b3 (by simp;omega)) ?_
     refine Aao rfl (by simp [AVal.closed,AaH,AaX,AaL,Abj]) (j1) (by simp [AVal.noref,AVal.flat,norefL,Abo,AbG,AbZ]) rfl rfl rfl rfl ?_
     refine Aai rfl rfl (Abs rfl b3 (by simp;omega)) ?_
     refine Aao rfl (by simp [AVal.closed,AaH,AaX,AaL,Abj]) (j4) (by simp [AVal.noref,AVal.flat,norefL,Abo,AbG,AbZ]) rfl rfl rfl rfl ?_
     refine Aah 1 rfl (AaD ?_);refine⟨rfl,?_⟩;refine Aan ?_
     refine Aaf rfl (by simp [AVal.closed,AaH,AaX,AaL,Abj]) (k3) (by simp [AVal.noref,AVal.flat,norefL,Abo,AbG,AbZ]) rfl rfl rfl rfl rfl ?_
     refine Aab ?_;refine Aan ?_;refine Aaa 1 rfl (Aab ?_);refine Aan ?_;refine Aaa 1 rfl (Aab ?_)
     refine Aan ?_;refine Aaa 1 rfl (Aab ?_);refine AcB ?_;refine AaC (t:=false) rfl (fun h=>nomatch h) (fun _=>?_)
     refine Aas (Aac ?_);refine Abk ?_;refine AaE rfl ?_;refine Aai rfl rfl (Abs rfl b2 (by simp;omega)) ?_
     refine Aao rfl (by simp [AVal.closed,AaH,AaX,AaL,Abj]) (x1) (by simp [AVal.noref,AVal.flat,norefL,Abo,AbG,AbZ]) rfl rfl rfl rfl ?_
     refine Aai rfl rfl (Abs rfl b2 (by simp;omega)) ?_;refine AaD ?_;refine⟨rfl,?_⟩;refine Aan ?_
     refine Aaf rfl (by simp [AVal.closed,AaH,AaX,AaL,Abj]) (x2) (by simp [AVal.noref,AVal.flat,norefL,Abo,AbG,AbZ]) rfl rfl rfl rfl rfl ?_
     refine Aab ?_;refine Aan ?_;refine Aaa 1 rfl (Aab ?_);refine Aan ?_;refine Aaa 1 rfl (Aab ?_)
     refine AcB ?_;refine Aac (Aac (Aad (Aaa 1 rfl ?_)))
     refine Aae (Abe 0 rfl b0 (by omega)) rfl rfl rfl rfl ?_;refine Aaa 2 rfl ?_
     rw [show (((P.getD (0+9) 0:Nat):Int) == 0)=true from beq_iff_eq.2 (by rw [show P.getD (0+9) 0=0 from y];rfl)]
     refine Aaa 1 rfl ?_;refine Aae (Abe 0 rfl b0 (by omega)) rfl rfl rfl rfl ?_;refine Aaa 2 rfl (Aab ?_)
     rw [show (((P.getD (0+10) 0:Nat):Int) == 0)=false from beq_false_of_ne (by have:P.getD (0+10) 0≠0:=(by rw [y] at z;show P.getD 10 0≠0;omega);omega)]
     refine AaC (t:=false) rfl (fun h=>nomatch h) (fun _=>?_);refine Aas (Aac (Aad (Aaa 2 rfl ?_)))
     refine Aae (Aar rfl rfl v3) rfl rfl rfl rfl ?_
     refine Aae (Aar rfl rfl v4) rfl rfl rfl rfl ?_
     refine Aaf rfl rfl (va) rfl rfl rfl rfl rfl rfl ?_;refine Aaa 2 rfl ?_
     rw [v7]
     refine Aaa 4 rfl ?_
     rw [v8]
     refine Aaa 4 rfl (Aab ?_)
     rw [v9]
     exact Aay (retd rfl ⟨_,AaA rfl⟩)
    ·refine Aab ?_;refine Aan ?_;refine Aaa 1 rfl (Aab ?_);refine Aan ?_;refine Aaa 1 rfl (Aab ?_)
     refine Aan ?_;refine Aaa 1 rfl (Aab ?_);refine Aan ?_;refine Aaa 1 rfl (Aab ?_);refine Aan ?_
     refine Aaa 1 rfl (Aab ?_);refine AaE rfl ?_;refine Aai rfl rfl (Abs rfl b2 (by simp;omega)) ?_
     refine Aai rfl rfl (Abs rfl b3 (by simp;omega)) ?_
     refine Aao rfl (by simp [AVal.closed,AaH,AaX,AaL,Abj]) (j1) (by simp [AVal.noref,AVal.flat,norefL,Abo,AbG,AbZ]) rfl rfl rfl rfl ?_
     refine Aai rfl rfl (Abs rfl b3 (by simp;omega)) ?_
     refine Aao rfl (by simp [AVal.closed,AaH,AaX,AaL,Abj]) (j4) (by simp [AVal.noref,AVal.flat,norefL,Abo,AbG,AbZ]) rfl rfl rfl rfl ?_
     refine Aah 1 rfl (AaD ?_);refine⟨rfl,?_⟩;refine Aan ?_
     refine Aaf rfl (by simp [AVal.closed,AaH,AaX,AaL,Abj]) (k3) (by simp [AVal.noref,AVal.flat,norefL,Abo,AbG,AbZ]) rfl rfl rfl rfl rfl ?_
     refine Aab ?_;refine Aan ?_;refine Aaa 1 rfl (Aab ?_);refine Aan ?_;refine Aaa 1 rfl (Aab ?_)
     refine Aan ?_;refine Aaa 1 rfl (Aab ?_);refine AcB ?_;refine AaC (t:=false) rfl (fun h=>nomatch h) (fun _=>?_)
     refine Aas (Aac ?_);refine Abk ?_;refine AaE rfl ?_;refine Aai rfl rfl (Abs rfl b2 (by simp;omega)) ?_
     refine Aao rfl (by simp [AVal.closed,AaH,AaX,AaL,Abj]) (x1) (by simp [AVal.noref,AVal.flat,norefL,Abo,AbG,AbZ]) rfl rfl rfl rfl ?_
     refine Aai rfl rfl (Abs rfl b2 (by simp;omega)) ?_;refine AaD ?_;refine⟨rfl,?_⟩;refine Aan ?_
     refine Aaf rfl (by simp [AVal.closed,AaH,AaX,AaL,Abj]) (x2) (by simp [AVal.noref,AVal.flat,norefL,Abo,AbG,AbZ]) rfl rfl rfl rfl rfl ?_
     refine Aab ?_;refine Aan ?_;refine Aaa 1 rfl (Aab ?_);refine Aan ?_;refine Aaa 1 rfl (Aab ?_)
     refine AcB ?_;refine Aac (Aac (Aad (Aaa 1 rfl ?_)))
     refine Aae (Abe 0 rfl b0 (by omega)) rfl rfl rfl rfl ?_;refine Aaa 2 rfl ?_
     rw [show (((P.getD (0+9) 0:Nat):Int) == 0)=false from beq_false_of_ne (by have:P.getD (0+9) 0≠0:=y;omega)]
     refine Aaa 4 rfl (Aab ?_);refine AaC (t:=false) rfl (fun h=>nomatch h) (fun _=>?_);refine Aas (Aac ?_)
     refine Aad (Aaa 2 rfl ?_)
     refine Aae (Aar rfl rfl v3) rfl rfl rfl rfl ?_
     refine Aae (Aar rfl rfl v4) rfl rfl rfl rfl ?_
     refine Aaf rfl rfl (va) rfl rfl rfl rfl rfl rfl ?_;refine Aaa 2 rfl ?_
     rw [v7]
     refine Aaa 4 rfl ?_
     rw [v8]
     refine Aaa 4 rfl (Aab ?_)
     rw [v9]
     exact Aay (retd rfl ⟨_,AaA rfl⟩)
end Go.Eng.St
namespace Go.Eng.St
open Go Go.Eng Go.RowKit Go.ChangeShapes Go.WideShapes
variable [Inhabited GlobT]
theorem open_agg_rep {H:Type} {enc:TypeId × Value→H} {P:Program} {r:Reach} {b0:Nat} {t:TypeId} {fs:Array Field} {W:World} {sp:Nat→Bool} {v:Value} {d:DataW H} {ps:List MemPlace} (dd:Nat) (ss:List Shp) (ht:P.underlying t=some (.struct fs)) (hs:AmC P dd t=some ss)
 (hval:Value.okWide P W r b0 t v) (h:DataW.Trod enc P W 0 sp true t v d ps):∃ xs,Rep [] (fun _=>False) W (.agg xs) v∧Ahc ss xs:=by
 obtain⟨cs,rfl,_⟩:=okWide_struct ht hval
 obtain⟨fuel,hf⟩:=h
 obtain⟨xs,h1,h2⟩:=AvZ dd fuel t _ _ _ hs hf
 have h1:RepV [] (fun _=>False) W xs cs.toList:=by simpa [Value.cells] using h1
 refine⟨xs,⟨cs,rfl,by simpa using h1.1.symm,AgA _ _ fun i a ha=>?_⟩,h2⟩
 have hi:i<cs.toList.length:=by
  rw [←h1.1];exact(List.getElem?_eq_some_iff.1 ha).1
 refine⟨cs.toList[i],by simp at hi ⊢,h1.2 i a _ ha (List.getElem?_eq_getElem hi)⟩
theorem nats_of:∀ (n:Nat) (xs:List AVal),Ahc (List.replicate n (.int .u64)) xs→∃ L:List Nat,xs=L.map (fun x:Nat=>AVal.int .u64 (x:Int))∧L.length=n∧∀ x∈L,x<18446744073709551616
 | 0,xs,h=>by
   simp only [List.replicate,Ahc] at h
   exact⟨[],by simpa using h,rfl,fun x hx=>by cases hx⟩
 | n+1,xs,h=>by
   simp only [List.replicate_succ,Ahc,ShpA] at h
   obtain⟨_,rest,rfl,⟨z,rfl,hz⟩,h⟩:=h
   obtain⟨L,rfl,hl,hx⟩:=nats_of n rest h
   have hz':0≤z∧z<18446744073709551616:=by
    simp [Lit.wf,IntKind.min,IntKind.max,IntKind.signed,IntKind.bits] at hz
    omega
   refine⟨z.toNat::L,?_,by simp [hl],?_⟩
   ·simp only [List.map_cons,List.cons.injEq,and_true]
    rw [Int.toNat_of_nonneg hz'.1]
   ·intro x hx'
    rcases List.mem_cons.1 hx' with rfl | h'
    ·omega
    ·exact hx x h'
end Go.Eng.St
