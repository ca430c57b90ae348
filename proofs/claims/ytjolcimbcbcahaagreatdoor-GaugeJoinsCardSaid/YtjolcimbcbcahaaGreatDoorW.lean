/- The laws' functions are walked: what each answers; no condition. -/
import Derived.Test.YtjolcimbcbcahaaGreatDoorC1
import Derived.Test.YtjolcimbcbcahaaGreatDoorE6
import Derived.Test.YtjolcimbcbcahaaGreatDoorV
import Derived.KernelRfl
import Derived.Test.YtjolcimbcbcahaaGreatDoorE4
import Derived.Laws.Cover2
set_option linter.unusedSectionVars false
set_option linter.unusedVariables false
set_option linter.unusedSimpArgs false
set_option linter.unnecessarySimpa false
namespace Go.Eng.Ga
abbrev f_l30_GaugeJoins:Nat:=5
abbrev AtL:Nat:=13
abbrev AzF:Nat:=14
abbrev f_gauge_Gauge_Join:Nat:=25
abbrev AzG:Nat:=26
abbrev Aaf:Nat:=27
abbrev Abo:Nat:=24
abbrev AmF:Nat:=73
abbrev Adj:Nat:=28
abbrev Abd:Nat:=68
abbrev AkK:Nat:=80
abbrev AmB:Nat:=81
abbrev Aju:Nat:=82
abbrev AaE:Nat:=74
abbrev AfE:Nat:=83
abbrev AbB:Nat:=70
abbrev Aan:Nat:=18
abbrev AdK:Nat:=17
abbrev AcO:Nat:=22
abbrev AaP:Nat:=21
abbrev AdL:Nat:=23
abbrev Adk:Nat:=16
abbrev Abp:Nat:=29
abbrev Ajx:Nat:=140
abbrev AdH:Nat:=84
abbrev Aae:Nat:=85
abbrev AdJ:Nat:=138
abbrev AaC:Nat:=144
abbrev AaD:Nat:=145
abbrev Apg:Nat:=146
abbrev AeH:Nat:=77
abbrev Aes:Nat:=76
abbrev AcA:Nat:=78
abbrev Aag:Nat:=204
abbrev Acz:Nat:=31
abbrev AgE:Nat:=142
abbrev Adl:Nat:=141
abbrev Abq:Nat:=143
abbrev Bbl:Nat:=59
abbrev AwI:Nat:=12
abbrev AaO:Nat:=136
abbrev AdI:Nat:=137
end Go.Eng.Ga
namespace Go.Eng.Ga
open Go Go.Eng
def d_l30_GaugeJoins_1:Ac := .seq (.ops [mv 24 0,i1 25 (.len false (.t 24)),i1 26 (.bin .gtr (.t 25) (k6 20)),mv 27 26,ig 28 (.move (.t 1)) 27 false,ig 29 (.len false (.t 28)) 27 false,ig 30 (.bin .gtr (.t 29) (k6 20)) 27 false,i1 31 (.pick (.t 27) (.c (.bool true)) (.t 30)),mv 32 31,ig 33 (.move (.t 2)) 32 false,ig 34 (.len false (.t 33)) 32 false,ig 35 (.bin .gtr (.t 34) (k6 200)) 32 false,i1 36 (.pick (.t 32) (.c (.bool true)) (.t 35)),mv 37 36,ig 38 (.move (.t 0)) 37 false,ig 39 (cf AtL [(.t 38)]) 37 false,ig 40 (.bin .neq (.t 39) (k6 0)) 37 false,i1 41 (.pick (.t 37) (.c (.bool true)) (.t 40)),mv 42 41,ig 43 (.move (.t 1)) 42 false,ig 44 (cf AtL [(.t 43)]) 42 false,ig 45 (.bin .neq (.t 44) (k6 0)) 42 false,i1 46 (.pick (.t 42) (.c (.bool true)) (.t 45))]) (.cond (.t 46) (.seq (.ops [i1 8 (.move (.c (.bool true)))]) (.ret)) (.skip))
def d_l30_GaugeJoins_2:Ac := .seq (.drawS [[mv 93 17],[i1 94 (.bin .eql (.t 93) (k6 0))],[mv 95 94],[ig 96 (.move (.t 19)) 95 true],[ig 97 (.bin .eql (.t 96) (k6 0)) 95 true],[i1 98 (.pick (.t 95) (.t 97) (.c (.bool false)))],[mv 99 98],[ig 100 (.load true 6 (.t 16)) 99 true,⟨(some 101),(.move (.t 0)),some (99,true),[7]⟩,⟨(some 102),(.move (.t 2)),some (99,true),[7,8]⟩],[ig 103 (cf AzG [(.t 100),(.t 101),(.t 102)]) 99 true],[i1 104 (.pick (.t 99) (.t 103) (.c (.bool false)))],[mv 105 104],[ig 106 (.load true 6 (.t 18)) 105 true,⟨(some 107),(.move (.t 0)),some (105,true),[13]⟩,⟨(some 108),(.move (.t 2)),some (105,true),[13,14]⟩],[ig 109 (cf AzG [(.t 106),(.t 107),(.t 108)]) 105 true],[i1 110 (.pick (.t 105) (.t 109) (.c (.bool false)))],[mv 111 110],[ig 112 (.load true 6 (.t 10)) 111 true,⟨(some 113),(.move (.t 0)),some (111,true),[19]⟩,⟨(some 114),(.move (.t 2)),some (111,true),[19,20]⟩,⟨(some 115),(.move (.t 9)),some (111,true),[19,20,21]⟩,⟨(some 116),(.slice 1 (.t 114) none (some (.t 115)) none),some (111,true),[19,20]⟩],[ig 117 (cf AzG [(.t 112),(.t 113),(.t 116)]) 111 true],[i1 118 (.pick (.t 111) (.t 117) (.c (.bool false)))],[mv 119 118],[ig 120 (.move (.t 21)) 119 true,ig 121 (.bin .eql (.t 120) (k6 0)) 119 true,⟨(some 122),(.move (.t 0)),some (119,true),[27,28]⟩,⟨(some 123),(.move (.t 1)),some (119,true),[27,28,29]⟩,⟨(some 124),(cf Aaf [(.t 122),(.t 123),(.c (.fn (.func Abo) [] []))]),some (119,true),[27,28]⟩],[ig 125 (.eqB false (.t 121) (.t 124)) 119 true],[i1 126 (.pick (.t 119) (.t 125) (.c (.bool false)))],[mv 8 126]]) (.ret)
def d_l30_GaugeJoins_3:Ac := .seq (.ops [i1 88 (.load true 6 (.t 10)),i1 89 (.load true 6 (.t 14)),i1 90 (cf f_gauge_Gauge_Join [(.t 88),(.t 89)]),mv 87 90,i1 91 (.extract (.t 87) 0),i1 92 (.extract (.t 87) 1),i1 20 (.alloc [.nils,.nils,(.int .u64 0),(.int .u64 0),(.flt .f64 0),(.flt .f64 0)]),i0 (.store 6 (.t 20) (.t 91)),mv 21 92]) (d_l30_GaugeJoins_2)
def d_l30_GaugeJoins_4:Ac := .seq (.ops [i1 82 (.load true 6 (.t 12)),i1 83 (.load true 6 (.t 10)),i1 84 (cf f_gauge_Gauge_Join [(.t 82),(.t 83)]),mv 81 84,i1 85 (.extract (.t 81) 0),i1 86 (.extract (.t 81) 1),i1 18 (.alloc [.nils,.nils,(.int .u64 0),(.int .u64 0),(.flt .f64 0),(.flt .f64 0)]),i0 (.store 6 (.t 18) (.t 85)),mv 19 86]) (d_l30_GaugeJoins_3)
def d_l30_GaugeJoins_5:Ac := .seq (.ops [i1 76 (.load true 6 (.t 10)),i1 77 (.load true 6 (.t 12)),i1 78 (cf f_gauge_Gauge_Join [(.t 76),(.t 77)]),mv 75 78,i1 79 (.extract (.t 75) 0),i1 80 (.extract (.t 75) 1),i1 16 (.alloc [.nils,.nils,(.int .u64 0),(.int .u64 0),(.flt .f64 0),(.flt .f64 0)]),i0 (.store 6 (.t 16) (.t 79)),mv 17 80]) (d_l30_GaugeJoins_4)
def d_l30_GaugeJoins_6:Ac := .seq (.ops [mv 70 1,mv 71 2,i1 72 (cf AzF [(.t 70),(.t 71)]),mv 69 72,i1 73 (.extract (.t 69) 0),i1 74 (.extract (.t 69) 1),i1 14 (.alloc [.nils,.nils,(.int .u64 0),(.int .u64 0),(.flt .f64 0),(.flt .f64 0)]),i0 (.store 6 (.t 14) (.t 73)),mv 15 74]) (d_l30_GaugeJoins_5)
def d_l30_GaugeJoins_7:Ac := .seq (.ops [mv 62 0,mv 63 2,mv 64 9,i1 65 (.slice 1 (.t 63) (some (.t 64)) none none),i1 66 (cf AzF [(.t 62),(.t 65)]),mv 61 66,i1 67 (.extract (.t 61) 0),i1 68 (.extract (.t 61) 1),i1 12 (.alloc [.nils,.nils,(.int .u64 0),(.int .u64 0),(.flt .f64 0),(.flt .f64 0)]),i0 (.store 6 (.t 12) (.t 67)),mv 13 68]) (d_l30_GaugeJoins_6)
def d_l30_GaugeJoins_8:Ac := .seq (.ops [mv 54 0,mv 55 2,mv 56 9,i1 57 (.slice 1 (.t 55) none (some (.t 56)) none),i1 58 (cf AzF [(.t 54),(.t 57)]),mv 53 58,i1 59 (.extract (.t 53) 0),i1 60 (.extract (.t 53) 1),i1 10 (.alloc [.nils,.nils,(.int .u64 0),(.int .u64 0),(.flt .f64 0),(.flt .f64 0)]),i0 (.store 6 (.t 10) (.t 59)),mv 11 60]) (d_l30_GaugeJoins_7)
def d_l30_GaugeJoins_9:Ac := .seq (.ops [mv 47 3,i1 48 (.conv (.int .i64) (.t 47)),mv 49 2,i1 50 (.len false (.t 49)),i1 51 (.bin .add (.t 50) (k6 1)),i1 52 (.bin .rem (.t 48) (.t 51)),mv 9 52]) (d_l30_GaugeJoins_8)
def d_l30_GaugeJoins_10:Ac := .seq (.seq (.ops [i1 22 (cf AwI []),i1 23 (.un .not (.t 22))]) (.cond (.t 23) (.seq (.ops [i1 8 (.move (.c (.bool false)))]) (.ret)) (.skip))) (.seq (d_l30_GaugeJoins_1) (d_l30_GaugeJoins_9))
def c_l30_GaugeJoins:AFunc:=⟨4,127,[.tmp 8],
 .seq (.ops [i1 8 (.move (.c (.bool false)))]) (d_l30_GaugeJoins_10)⟩
def AwV:Ac := .seq (.ops [mv 15 4,mv 16 4,i1 17 (.bin .neq (.t 15) (.t 16)),mv 18 17,ig 19 (.move (.t 3)) 18 false,ig 20 (.bin .gtr (.t 19) (k6 0)) 18 false,ig 21 (.move (.t 20)) 18 false,ig 22 (.move (.t 0)) 21 true,ig 23 (.move (.t 3)) 21 true,ig 24 (.bin .sub (.t 23) (k6 1)) 21 true,ig 25 (.iaddr 1 (.t 22) (.t 24)) 21 true,ig 26 (.load false 1 (.t 25)) 21 true,ig 27 (.move (.t 4)) 21 true,ig 28 (cf AmF [(.t 26),(.t 27)]) 21 true,ig 29 (.bin .geq (.t 28) (k6 0)) 21 true,ig 30 (.pick (.t 21) (.t 29) (.c (.bool false))) 18 false,i1 31 (.pick (.t 18) (.c (.bool true)) (.t 30))]) (.cond (.t 31) (.seq (.ops [i1 2 (.move (k6 21))]) (.ret)) (.skip))
def AwU:Ac := .seq (.block 1 (.seq (.ops [mv 12 10,i1 13 (.iaddr 1 (.t 8) (.t 10)),i1 14 (.load false 1 (.t 13)),mv 3 12,mv 4 14]) (AwV))) (.ops [i1 32 (.bin .add (.t 10) (k6 1)),mv 10 32])
def AwT:Ac := .seq (.ops [mv 8 0,i1 9 (.len false (.t 8)),i1 10 (.move (k6 0))]) (.block 0 (.loop (.seq (.ops [i1 11 (.bin .lss (.t 10) (.t 9))]) (.seq (.cond (.t 11) (.skip) (.exit 0)) (AwU)))))
def AwS:Ac := .seq (.seq (.ops [mv 5 0,i1 6 (.len false (.t 5)),i1 7 (.bin .gtr (.t 6) (k6 32))]) (.cond (.t 7) (.seq (.ops [i1 2 (.move (k6 6))]) (.ret)) (.skip))) (.seq (AwT) (.seq (.ops [i1 2 (.move (k6 0))]) (.ret)))
def Ank:AFunc:=⟨1,33,[.tmp 2],
 .seq (.ops [i1 2 (.move (k6 0))]) (AwS)⟩
def BbI:Ac := .seq (.ops [i1 19 (.iaddr 1 (.t 15) (.t 17)),i1 20 (.load false 1 (.t 19)),mv 9 20]) (.ops [i1 21 (.load true 6 (.t 6)),mv 22 9,i1 23 (cf Abd [(.t 21),(.t 22)]),i0 (.store 6 (.t 6) (.t 23))])
def BbH:Ac := .seq (.ops [i1 18 (.bin .lss (.t 17) (.t 16))]) (.seq (.cond (.t 18) (.skip) (.exit 0)) (.seq (.block 1 (BbI)) (.ops [i1 24 (.bin .add (.t 17) (k6 1)),mv 17 24])))
def BbG:Ac := .seq (.seq (.ops [mv 15 1,i1 16 (.len false (.t 15)),i1 17 (.move (k6 0))]) (.block 0 (.loop (BbH)))) (.seq (.ops [i1 25 (.load true 6 (.t 6)),mv 26 7,i0 (.store 6 (.t 4) (.t 25)),mv 5 26]) (.ret))
def BbF:Ac := .seq (.ops [mv 11 0,i1 12 (cf Adj [(.t 11)]),mv 10 12,i1 13 (.extract (.t 10) 0),i1 14 (.extract (.t 10) 1),i1 6 (.alloc [.nils,.nils,(.int .u64 0),(.int .u64 0),(.flt .f64 0),(.flt .f64 0)]),i0 (.store 6 (.t 6) (.t 13)),mv 7 14]) (BbG)
def ArQ:AFunc:=⟨2,27,[.cell 4 true 6,.tmp 5],
 .seq (.ops [i1 4 (.alloc [.nils,.nils,(.int .u64 0),(.int .u64 0),(.flt .f64 0),(.flt .f64 0)]),i1 5 (.move (k6 0))]) (BbF)⟩
def d_gauge_Gauge_Join_1:Ac := .seq (.ops [i1 14 (.build [.nils,.nils,(.int .u64 0),(.int .u64 0),(.flt .f64 0),(.flt .f64 0)] []),i0 (.store 6 (.t 4) (.t 14)),i1 5 (.move (k6 4))]) (.ret)
def d_gauge_Gauge_Join_2:Ac := .seq (.ops [i1 8 (.faddr 0 (.t 2)),i1 9 (.load false 1 (.t 8)),i1 10 (.faddr 0 (.t 3)),i1 11 (.load false 1 (.t 10)),i1 12 (cf Aaf [(.t 9),(.t 11),(.c (.fn (.func Abo) [] []))]),i1 13 (.un .not (.t 12))]) (.cond (.t 13) (d_gauge_Gauge_Join_1) (.skip))
def d_gauge_Gauge_Join_3:Ac := .draw [i1 37 (.faddr 4 (.t 3)),i1 38 (.load false 1 (.t 37)),iu 39 (.faddr 5 (.t 3)) [0,1],iu 40 (.load false 1 (.t 39)) [0,1],iu 41 (.faddr 4 (.t 2)) [2,3],j0 (.store 1 (.t 41) (.t 38)) [2,3],i1 42 (.faddr 5 (.t 2)),i0 (.store 1 (.t 42) (.t 40))]
def d_gauge_Gauge_Join_4:Ac := .draw [i1 15 (.faddr 4 (.t 2)),i1 16 (.load false 1 (.t 15)),iu 17 (.faddr 4 (.t 3)) [0,1],iu 18 (.load false 1 (.t 17)) [0,1],i1 19 (.buildSlice [(.flt .f64 0)] 1 2 [(0,(.t 16)),(1,(.t 18))]),i1 20 (cf AkK [(.t 19)]),iu 21 (.faddr 5 (.t 2)) (ur 6),iu 22 (.load false 1 (.t 21)) (ur 6),iu 23 (.faddr 5 (.t 3)) (ur 8),iu 24 (.load false 1 (.t 23)) (ur 8),iu 25 (.buildSlice [(.flt .f64 0)] 1 2 [(0,(.t 22)),(1,(.t 24))]) (ur 6),i1 26 (cf AmB [(.t 25)]),iu 27 (.faddr 4 (.t 2)) (ub 8 4),i0 (.store 1 (.t 27) (.t 20)),i1 28 (.faddr 5 (.t 2)),i0 (.store 1 (.t 28) (.t 26))]
def d_gauge_Gauge_Join_5:Ac := .seq (.ops [i1 34 (.faddr 3 (.t 2)),i1 35 (.load false 1 (.t 34)),i1 36 (.bin .eql (.t 35) (.c (.int .u64 0))),mv 33 36]) (.cond (.t 33) (d_gauge_Gauge_Join_3) (d_gauge_Gauge_Join_4))
def d_gauge_Gauge_Join_6:Ac := .seq (.ops [i1 30 (.faddr 3 (.t 3)),i1 31 (.load false 1 (.t 30)),i1 32 (.bin .eql (.t 31) (.c (.int .u64 0))),mv 29 32]) (.cond (.t 29) (.skip) (d_gauge_Gauge_Join_5))
def d_gauge_Gauge_Join_7:Ac := .ops [i1 66 (.faddr 1 (.t 2)),i1 67 (.load false 1 (.t 66)),mv 68 6,i1 69 (.iaddr 1 (.t 67) (.t 68)),i1 70 (.load false 1 (.t 69)),mv 71 7,i1 72 (.bin .add (.t 70) (.t 71)),i1 73 (.iaddr 1 (.t 67) (.t 68)),i0 (.store 1 (.t 73) (.t 72))]
def d_gauge_Gauge_Join_8:Ac := .seq (.block 2 (.seq (.ops [mv 63 61,i1 64 (.iaddr 1 (.t 59) (.t 61)),i1 65 (.load false 1 (.t 64)),mv 6 63,mv 7 65]) (d_gauge_Gauge_Join_7))) (.ops [i1 74 (.bin .add (.t 61) (k6 1)),mv 61 74])
def d_gauge_Gauge_Join_9:Ac := .seq (.ops [i1 58 (.load true 6 (.t 3)),i1 59 (cf AaE [(.t 58)]),i1 60 (.len false (.t 59)),i1 61 (.move (k6 0))]) (.block 1 (.loop (.seq (.ops [i1 62 (.bin .lss (.t 61) (.t 60))]) (.seq (.cond (.t 62) (.skip) (.exit 1)) (d_gauge_Gauge_Join_8)))))
def d_gauge_Gauge_Join_10:Ac := .seq (.draw [i1 43 (.faddr 2 (.t 2)),i1 44 (.load false 1 (.t 43)),iu 45 (.faddr 2 (.t 3)) [0,1],iu 46 (.load false 1 (.t 45)) [0,1],i1 47 (cf Aju [(.t 44),(.t 46)]),iu 48 (.faddr 3 (.t 2)) (ur 5),iu 49 (.load false 1 (.t 48)) (ur 5),iu 50 (.faddr 3 (.t 3)) (ur 7),iu 51 (.load false 1 (.t 50)) (ur 7),i1 52 (cf Aju [(.t 49),(.t 51)]),iu 53 (.load true 6 (.t 2)) (ur 10),i1 54 (cf AaE [(.t 53)]),iu 55 (.faddr 2 (.t 2)) (ub 7 3++ub 11 1),i0 (.store 1 (.t 55) (.t 47)),i1 56 (.faddr 3 (.t 2)),i0 (.store 1 (.t 56) (.t 52)),i1 57 (.faddr 1 (.t 2)),i0 (.store 1 (.t 57) (.t 54))]) (.seq (d_gauge_Gauge_Join_9) (.seq (.ops [i1 75 (.load true 6 (.t 2)),i0 (.store 6 (.t 4) (.t 75)),i1 5 (.move (k6 0))]) (.ret)))
def c_gauge_Gauge_Join:AFunc:=⟨2,76,[.cell 4 true 6,.tmp 5],
 .seq (.ops [i1 2 (.box 6 (.t 0)),i1 3 (.box 6 (.t 1)),i1 4 (.alloc [.nils,.nils,(.int .u64 0),(.int .u64 0),(.flt .f64 0),(.flt .f64 0)]),i1 5 (.move (k6 0))]) (.seq (d_gauge_Gauge_Join_2) (.seq (.block 0 (d_gauge_Gauge_Join_6)) (d_gauge_Gauge_Join_10)))⟩
def BbQ:Ac := .seq (.ops [mv 35 12,i1 36 (.un .not (.t 35)),mv 37 36,ig 38 (.move (.t 14)) 37 false,ig 39 (.move (.t 10)) 37 false,ig 40 (cf Aan [(.t 38),(.t 39)]) 37 false,ig 41 (.bin .lss (.t 40) (k6 0)) 37 false,i1 42 (.pick (.t 37) (.c (.bool true)) (.t 41))]) (.cond (.t 42) (.ops [mv 43 14,mv 10 43]) (.skip))
def BbP:Ac := .seq (.ops [mv 44 12,i1 45 (.un .not (.t 44)),mv 46 45,ig 47 (.move (.t 14)) 46 false,ig 48 (.move (.t 11)) 46 false,ig 49 (cf Aan [(.t 47),(.t 48)]) 46 false,ig 50 (.bin .gtr (.t 49) (k6 0)) 46 false,i1 51 (.pick (.t 46) (.c (.bool true)) (.t 50))]) (.cond (.t 51) (.ops [mv 52 14,mv 11 52]) (.skip))
def BbO:Ac := .seq (.seq (.ops [mv 32 14,mv 33 14,i1 34 (.bin .neq (.t 32) (.t 33))]) (.cond (.t 34) (.exit 1) (.skip))) (.seq (BbQ) (.seq (BbP) (.ops [i1 12 (.move (.c (.bool true)))])))
def BbN:Ac := .seq (.block 1 (.seq (.ops [i1 30 (.iaddr 1 (.t 26) (.t 28)),i1 31 (.load false 1 (.t 30)),mv 14 31]) (BbO))) (.ops [i1 53 (.bin .add (.t 28) (k6 1)),mv 28 53])
def BbM:Ac := .seq (.ops [mv 26 2,i1 27 (.len false (.t 26)),i1 28 (.move (k6 0))]) (.block 0 (.loop (.seq (.ops [i1 29 (.bin .lss (.t 28) (.t 27))]) (.seq (.cond (.t 29) (.skip) (.exit 0)) (BbN)))))
def BbL:Ac := .seq (.ops [i1 59 (.load true 6 (.t 3)),i1 60 (cf AcO [(.t 59)]),mv 61 7,i1 62 (cf AaP [(.t 60),(.t 61)]),mv 63 62,ig 64 (.load true 6 (.t 3)) 63 true,ig 65 (cf AdL [(.t 64)]) 63 true,ig 66 (.move (.t 8)) 63 true,ig 67 (.bin .eql (.t 65) (.t 66)) 63 true,i1 68 (.pick (.t 63) (.t 67) (.c (.bool false))),mv 69 68,ig 70 (.load true 6 (.t 3)) 69 true,ig 71 (cf Adk [(.t 70)]) 69 true,ig 72 (.move (.t 9)) 69 true,ig 73 (.bin .eql (.t 71) (.t 72)) 69 true,i1 74 (.pick (.t 69) (.t 73) (.c (.bool false))),mv 75 74,ig 76 (.move (.t 15)) 75 true,ig 77 (.move (.t 10)) 75 true,ig 78 (cf Abo [(.t 76),(.t 77)]) 75 true,i1 79 (.pick (.t 75) (.t 78) (.c (.bool false))),mv 80 79,ig 81 (.move (.t 16)) 80 true,ig 82 (.move (.t 11)) 80 true,ig 83 (cf Abo [(.t 81),(.t 82)]) 80 true,i1 84 (.pick (.t 80) (.t 83) (.c (.bool false))),mv 85 84,ig 86 (.load true 6 (.t 3)) 85 true,ig 87 (cf Abp [(.t 86)]) 85 true,ig 88 (.move (.t 1)) 85 true,ig 89 (cf Aaf [(.t 87),(.t 88),(.c (.fn (.func Abo) [] []))]) 85 true,i1 90 (.pick (.t 85) (.t 89) (.c (.bool false))),mv 6 90]) (.ret)
def BbK:Ac := .seq (.ops [i1 55 (.load true 6 (.t 3)),i1 56 (cf AdK [(.t 55)]),mv 54 56,i1 57 (.extract (.t 54) 0),i1 58 (.extract (.t 54) 1),mv 15 57,mv 16 58]) (BbL)
def BbJ:Ac := .seq (.ops [mv 18 1,mv 19 2,i1 20 (cf AfE [(.t 18),(.t 19)]),mv 17 20,i1 21 (.extract (.t 17) 0),i1 22 (.extract (.t 17) 1),i1 23 (.extract (.t 17) 2),mv 7 21,mv 8 22,mv 9 23]) (.seq (.ops [i1 24 (cf AbB []),i1 25 (cf AbB []),mv 10 24,mv 11 25]) (.seq (.ops [i1 12 (.move (.c (.bool false)))]) (.seq (BbM) (BbK))))
def ArR:AFunc:=⟨3,91,[.tmp 6],
 .seq (.ops [i1 3 (.box 6 (.t 0)),i1 6 (.move (.c (.bool false)))]) (BbJ)⟩
def Aau:Ac := .seq (.ops [mv 10 0,i1 11 (.len false (.t 10)),mv 12 1,i1 13 (.len false (.t 12)),i1 14 (.bin .neq (.t 11) (.t 13))]) (.cond (.t 14) (.seq (.ops [i1 6 (.move (.c (.bool false)))]) (.ret)) (.skip))
def Aat:Ac := .seq (.ops [mv 26 2,mv 27 8,mv 28 9,i1 29 (.call (.t 26) [(.t 27),(.t 28)]),i1 30 (.un .not (.t 29))]) (.cond (.t 30) (.seq (.ops [i1 6 (.move (.c (.bool false)))]) (.ret)) (.skip))
def Aas:Ac := .seq (.ops [mv 22 1,mv 23 7,i1 24 (.iaddr 1 (.t 22) (.t 23)),i1 25 (.load false 1 (.t 24)),mv 9 25]) (Aat)
def Aar:Ac := .seq (.ops [mv 19 17,i1 20 (.iaddr 1 (.t 15) (.t 17)),i1 21 (.load false 1 (.t 20)),mv 7 19,mv 8 21]) (Aas)
def Aaq:Ac := .seq (.cond (.t 18) (.skip) (.exit 0)) (.seq (.block 1 (Aar)) (.ops [i1 31 (.bin .add (.t 17) (k6 1)),mv 17 31]))
def Aap:Ac := .seq (.ops [mv 15 0,i1 16 (.len false (.t 15)),i1 17 (.move (k6 0))]) (.block 0 (.loop (.seq (.ops [i1 18 (.bin .lss (.t 17) (.t 16))]) (Aaq))))
def Aao:Ac := .seq (Aau) (.seq (Aap) (.seq (.ops [i1 6 (.move (.c (.bool true)))]) (.ret)))
def Aac:AFunc:=⟨3,32,[.tmp 6],
 .seq (.ops [i1 6 (.move (.c (.bool false)))]) (Aao)⟩
def Ahz:AFunc:=⟨2,9,[.tmp 4],
 .seq (.ops [i1 4 (.move (.c (.bool false)))]) (.seq (.ops [mv 5 0,mv 6 1,i1 7 (cf Aan [(.t 5),(.t 6)]),i1 8 (.bin .eql (.t 7) (k6 0)),mv 4 8]) (.ret))⟩
def AxH:Ac := .seq (.ops [mv 11 5,mv 12 6,i1 13 (.bin .lss (.t 11) (.t 12)),mv 14 13,ig 15 (.move (.t 5)) 14 false,ig 16 (.move (.t 6)) 14 false,ig 17 (.bin .eql (.t 15) (.t 16)) 14 false,ig 18 (.move (.t 17)) 14 false,ig 19 (.move (.t 0)) 18 true,ig 20 (.move (.t 1)) 18 true,ig 21 (.bin .lss (.t 19) (.t 20)) 18 true,ig 22 (.pick (.t 18) (.t 21) (.c (.bool false))) 14 false,i1 23 (.pick (.t 14) (.c (.bool true)) (.t 22))]) (.cond (.t 23) (.seq (.ops [i1 4 (.move (k6 (-1)))]) (.ret)) (.skip))
def AxG:Ac := .seq (.ops [mv 24 5,mv 25 6,i1 26 (.bin .gtr (.t 24) (.t 25)),mv 27 26,ig 28 (.move (.t 0)) 27 false,ig 29 (.move (.t 1)) 27 false,ig 30 (.bin .gtr (.t 28) (.t 29)) 27 false,i1 31 (.pick (.t 27) (.c (.bool true)) (.t 30))]) (.cond (.t 31) (.seq (.ops [i1 4 (.move (k6 1))]) (.ret)) (.skip))
def AxF:Ac := .seq (.ops [mv 7 0,i1 8 (cf Ajx [(.t 7)]),mv 9 1,i1 10 (cf Ajx [(.t 9)]),mv 5 8,mv 6 10]) (.seq (AxH) (.seq (AxG) (.seq (.ops [i1 4 (.move (k6 0))]) (.ret))))
def AfR:AFunc:=⟨2,32,[.tmp 4],
 .seq (.ops [i1 4 (.move (k6 0))]) (AxF)⟩
def ArA:Ac := .seq (.ops [i1 9 (.build [.nils,.nils,(.int .u64 0),(.int .u64 0),(.flt .f64 0),(.flt .f64 0)] []),i0 (.store 6 (.t 2) (.t 9)),i1 3 (.move (k6 6))]) (.ret)
def Arz:Ac := .seq (.ops [i1 33 (.build [.nils,.nils,(.int .u64 0),(.int .u64 0),(.flt .f64 0),(.flt .f64 0)] []),i0 (.store 6 (.t 2) (.t 33)),i1 3 (.move (k6 21))]) (.ret)
def Ary:Ac := .seq (.ops [mv 17 5,i1 18 (cf AdH [(.t 17)]),mv 19 18,ig 20 (.move (.t 4)) 19 false,ig 21 (.bin .gtr (.t 20) (k6 0)) 19 false,ig 22 (.move (.t 21)) 19 false,ig 23 (.move (.t 0)) 22 true,ig 24 (.move (.t 4)) 22 true,ig 25 (.bin .sub (.t 24) (k6 1)) 22 true,ig 26 (.iaddr 1 (.t 23) (.t 25)) 22 true,ig 27 (.load false 1 (.t 26)) 22 true,ig 28 (.move (.t 5)) 22 true,ig 29 (cf Aan [(.t 27),(.t 28)]) 22 true,ig 30 (.bin .geq (.t 29) (k6 0)) 22 true,ig 31 (.pick (.t 22) (.t 30) (.c (.bool false))) 19 false,i1 32 (.pick (.t 19) (.c (.bool true)) (.t 31))]) (.cond (.t 32) (Arz) (.skip))
def Arx:Ac := .seq (.block 1 (.seq (.ops [mv 14 12,i1 15 (.iaddr 1 (.t 10) (.t 12)),i1 16 (.load false 1 (.t 15)),mv 4 14,mv 5 16]) (Ary))) (.ops [i1 34 (.bin .add (.t 12) (k6 1)),mv 12 34])
def Arw:Ac := .seq (.ops [mv 10 0,i1 11 (.len false (.t 10)),i1 12 (.move (k6 0))]) (.block 0 (.loop (.seq (.ops [i1 13 (.bin .lss (.t 12) (.t 11))]) (.seq (.cond (.t 13) (.skip) (.exit 0)) (Arx)))))
def Arv:Ac := .seq (.ops [mv 35 0,i1 36 (cf Aae [(.t 35)]),i1 37 (.build [.nils,.nils,(.int .u64 0),(.int .u64 0),(.flt .f64 0),(.flt .f64 0)] [((0,1),(.t 36))]),i0 (.store 6 (.t 2) (.t 37)),i1 3 (.move (k6 0))]) (.ret)
def Aru:Ac := .seq (.seq (.ops [mv 6 0,i1 7 (.len false (.t 6)),i1 8 (.bin .gtr (.t 7) (k6 32))]) (.cond (.t 8) (ArA) (.skip))) (.seq (Arw) (Arv))
def AeQ:AFunc:=⟨1,38,[.cell 2 true 6,.tmp 3],
 .seq (.ops [i1 2 (.alloc [.nils,.nils,(.int .u64 0),(.int .u64 0),(.flt .f64 0),(.flt .f64 0)]),i1 3 (.move (k6 0))]) (Aru)⟩
def Ahi:Ac := .seq (.ops [i1 7 (.faddr 2 (.t 2)),i1 8 (.load false 1 (.t 7)),i1 9 (cf Aju [(.t 8),(.c (.int .u64 1))]),i1 10 (.faddr 2 (.t 2)),i0 (.store 1 (.t 10) (.t 9))]) (.seq (.ops [i1 11 (.load true 6 (.t 2)),i0 (.store 6 (.t 4) (.t 11))]) (.ret))
def Ahh:Ac := .cond (.t 14) (.ops [mv 15 1,mv 16 1,i1 17 (.faddr 4 (.t 2)),i0 (.store 1 (.t 17) (.t 15)),i1 18 (.faddr 5 (.t 2)),i0 (.store 1 (.t 18) (.t 16))]) (.skip)
def Ahg:Ac := .seq (.draw [i1 38 (.faddr 1 (.t 2)),i1 39 (.load false 1 (.t 38)),iu 40 (.load true 6 (.t 2)) [0,1],mu 41 1 [0,1,2],iu 42 (cf AdJ [(.t 40),(.t 41)]) [0,1],i1 43 (.iaddr 1 (.t 39) (.t 42)),i1 44 (.load false 1 (.t 43)),i1 45 (.bin .add (.t 44) (.c (.int .u64 1))),i1 46 (.iaddr 1 (.t 39) (.t 42)),i0 (.store 1 (.t 46) (.t 45))]) (.seq (.ops [i1 47 (.load true 6 (.t 2)),i0 (.store 6 (.t 4) (.t 47))]) (.ret))
def Ahf:Ac := .seq (.ops [i1 31 (.faddr 3 (.t 2)),i1 32 (.load false 1 (.t 31)),i1 33 (cf Aju [(.t 32),(.c (.int .u64 1))]),i1 34 (.faddr 3 (.t 2)),i0 (.store 1 (.t 34) (.t 33))]) (.seq (.ops [i1 35 (.load true 6 (.t 2)),i1 36 (cf AaE [(.t 35)]),i1 37 (.faddr 1 (.t 2)),i0 (.store 1 (.t 37) (.t 36))]) (Ahg))
def Adm:Ac := .seq (.draw [i1 19 (.faddr 4 (.t 2)),i1 20 (.load false 1 (.t 19)),mu 21 1 [0,1],i1 22 (.buildSlice [(.flt .f64 0)] 1 2 [(0,(.t 20)),(1,(.t 21))]),i1 23 (cf AkK [(.t 22)]),iu 24 (.faddr 5 (.t 2)) (ur 5),iu 25 (.load false 1 (.t 24)) (ur 5),mu 26 1 (ur 7),iu 27 (.buildSlice [(.flt .f64 0)] 1 2 [(0,(.t 25)),(1,(.t 26))]) (ur 5),i1 28 (cf AmB [(.t 27)]),iu 29 (.faddr 4 (.t 2)) [7,8,9],i0 (.store 1 (.t 29) (.t 23)),i1 30 (.faddr 5 (.t 2)),i0 (.store 1 (.t 30) (.t 28))]) (Ahf)
def Ahe:Ac := .seq (.seq (.ops [i1 12 (.faddr 3 (.t 2)),i1 13 (.load false 1 (.t 12)),i1 14 (.bin .eql (.t 13) (.c (.int .u64 0)))]) (Ahh)) (Adm)
def Aaj:AFunc:=⟨2,48,[.cell 4 true 6],
 .seq (.ops [i1 2 (.box 6 (.t 0)),i1 4 (.alloc [.nils,.nils,(.int .u64 0),(.int .u64 0),(.flt .f64 0),(.flt .f64 0)])]) (.seq (.seq (.ops [mv 5 1,i1 6 (cf AdH [(.t 5)])]) (.cond (.t 6) (Ahi) (.skip))) (Ahe))⟩
def AnT:Ac := .seq (.seq (.ops [mv 3 0,i1 4 (.len false (.t 3)),i1 5 (.bin .eql (.t 4) (k6 0))]) (.cond (.t 5) (.seq (.ops [i1 6 (cf AbB []),mv 2 6]) (.ret)) (.skip))) (.seq (.ops [mv 7 0,i1 8 (cf AaC [(.t 7),(.c (.fn (.func Aan) [] []))]),mv 2 8]) (.ret))
def AfN:AFunc:=⟨1,9,[.tmp 2],
 .seq (.ops [i1 2 (.move (.c (.flt .f64 0)))]) (AnT)⟩
def AqI:Ac := .seq (.seq (.ops [mv 3 0,i1 4 (.len false (.t 3)),i1 5 (.bin .eql (.t 4) (k6 0))]) (.cond (.t 5) (.seq (.ops [i1 6 (cf AbB []),mv 2 6]) (.ret)) (.skip))) (.seq (.ops [mv 7 0,i1 8 (cf AaD [(.t 7),(.c (.fn (.func Aan) [] []))]),mv 2 8]) (.ret))
def AhA:AFunc:=⟨1,9,[.tmp 2],
 .seq (.ops [i1 2 (.move (.c (.flt .f64 0)))]) (AqI)⟩
def Auf:Ac := .seq (.ops [mv 5 1,mv 6 0,i1 7 (.bin .sub (.c (.int .u64 18446744073709551615)) (.t 6)),i1 8 (.bin .gtr (.t 5) (.t 7))]) (.cond (.t 8) (.seq (.ops [i1 4 (.move (.c (.int .u64 18446744073709551615)))]) (.ret)) (.skip))
def AjX:AFunc:=⟨2,12,[.tmp 4],
 .seq (.ops [i1 4 (.move (.c (.int .u64 0)))]) (.seq (Auf) (.seq (.ops [mv 9 0,mv 10 1,i1 11 (.bin .add (.t 9) (.t 10)),mv 4 11]) (.ret)))⟩
def Afe:Ac := .seq (.ops [i1 4 (.faddr 0 (.t 1)),i1 5 (.load false 1 (.t 4)),i1 6 (.len false (.t 5)),i1 7 (.bin .add (.t 6) (k6 1)),i1 8 (.makeSlice [(.int .u64 0)] 1 8 (.t 7) (.t 7)),mv 3 8]) (.seq (.ops [mv 9 3,i1 10 (.faddr 1 (.t 1)),i1 11 (.load false 1 (.t 10)),i1 12 (.copy 1 (.t 9) (.t 11))]) (.seq (.ops [mv 13 3,mv 2 13]) (.ret)))
def Abf:AFunc:=⟨1,14,[.tmp 2],
 .seq (.ops [i1 1 (.box 6 (.t 0)),i1 2 (.move (.c .nils))]) (Afe)⟩
def AnZ:Ac := .ops [mv 29 7,mv 30 0,mv 31 11,i1 32 (cf Apg [(.t 30),(.t 31)]),i1 33 (.iaddr 1 (.t 29) (.t 32)),i1 34 (.load false 1 (.t 33)),i1 35 (.bin .add (.t 34) (.c (.int .u64 1))),i1 36 (.iaddr 1 (.t 29) (.t 32)),i0 (.store 1 (.t 36) (.t 35))]
def AnY:Ac := .cond (.t 24) (.ops [mv 25 8,i1 26 (.bin .add (.t 25) (.c (.int .u64 1))),mv 8 26]) (.seq (.ops [mv 27 9,i1 28 (.bin .add (.t 27) (.c (.int .u64 1))),mv 9 28]) (AnZ))
def AnX:Ac := .seq (.ops [i1 20 (.iaddr 1 (.t 16) (.t 18)),i1 21 (.load false 1 (.t 20)),mv 11 21]) (.seq (.ops [mv 22 11,mv 23 11,i1 24 (.bin .neq (.t 22) (.t 23))]) (AnY))
def AnW:Ac := .seq (.ops [i1 19 (.bin .lss (.t 18) (.t 17))]) (.seq (.cond (.t 19) (.skip) (.exit 0)) (.seq (.block 1 (AnX)) (.ops [i1 37 (.bin .add (.t 18) (k6 1)),mv 18 37])))
def AnV:Ac := .seq (.seq (.ops [mv 16 1,i1 17 (.len false (.t 16)),i1 18 (.move (k6 0))]) (.block 0 (.loop (AnW)))) (.seq (.ops [mv 38 7,mv 39 8,mv 40 9,mv 4 38,mv 5 39,mv 6 40]) (.ret))
def AnU:Ac := .seq (.ops [mv 12 0,i1 13 (.len false (.t 12)),i1 14 (.bin .add (.t 13) (k6 1)),i1 15 (.makeSlice [(.int .u64 0)] 1 8 (.t 14) (.t 14)),mv 7 15]) (.seq (.ops [i1 8 (.move (.c (.int .u64 0))),i1 9 (.move (.c (.int .u64 0)))]) (AnV))
def AfO:AFunc:=⟨2,41,[.tmp 4,.tmp 5,.tmp 6],
 .seq (.ops [i1 4 (.move (.c .nils)),i1 5 (.move (.c (.int .u64 0))),i1 6 (.move (.c (.int .u64 0)))]) (AnU)⟩
def Akk:AFunc:=⟨0,2,[.tmp 0],
 .seq (.ops [i1 0 (.move (.c (.flt .f64 0)))]) (.seq (.ops [i1 1 (cf AaO [(.c (.int .u64 9221120237041090561))]),mv 0 1]) (.ret))⟩
def AuA:Ac := .seq (.ops [mv 6 0,i1 7 (cf AeH [(.t 6)]),mv 8 1,i1 9 (cf AeH [(.t 8)]),i1 10 (cf Aes [(.t 7),(.t 9)]),mv 5 10]) (.seq (.ops [mv 11 5,i1 12 (.bin .neq (.t 11) (k6 0))]) (.cond (.t 12) (.seq (.ops [mv 13 5,mv 4 13]) (.ret)) (.skip)))
def Auz:Ac := .seq (.seq (.ops [mv 14 0,i1 15 (cf AeH [(.t 14)]),i1 16 (.bin .eql (.t 15) (k6 0))]) (.cond (.t 16) (.seq (.ops [i1 4 (.move (k6 0))]) (.ret)) (.skip))) (.seq (.ops [mv 17 0,mv 18 1,i1 19 (cf AcA [(.t 17),(.t 18)]),mv 4 19]) (.ret))
def Akc:AFunc:=⟨2,20,[.tmp 4],
 .seq (.ops [i1 4 (.move (k6 0))]) (.seq (AuA) (Auz))⟩
def Agy:Ac := .seq (.ops [i1 4 (.faddr 3 (.t 1)),i1 5 (.load false 1 (.t 4)),i1 6 (.bin .eql (.t 5) (.c (.int .u64 0)))]) (.cond (.t 6) (.seq (.ops [i1 7 (cf AbB []),i1 8 (cf AbB []),mv 2 7,mv 3 8]) (.ret)) (.skip))
def Agx:Ac := .seq (.draw [i1 9 (.faddr 4 (.t 1)),i1 10 (.load false 1 (.t 9)),iu 11 (.faddr 5 (.t 1)) [0,1],iu 12 (.load false 1 (.t 11)) [0,1],mu 2 10 [2,3],mv 3 12]) (.ret)
def AbU:AFunc:=⟨1,13,[.tmp 2,.tmp 3],
 .seq (.ops [i1 1 (.box 6 (.t 0)),i1 2 (.move (.c (.flt .f64 0))),i1 3 (.move (.c (.flt .f64 0)))]) (.seq (Agy) (Agx))⟩
def Abg:AFunc:=⟨1,5,[.tmp 2],
 .seq (.ops [i1 1 (.box 6 (.t 0)),i1 2 (.move (.c .nils))]) (.seq (.ops [i1 3 (.load true 6 (.t 1)),i1 4 (cf AaE [(.t 3)]),mv 2 4]) (.ret))⟩
def AcE:Ac := .seq (.ops [mv 6 0,i1 7 (.len false (.t 6)),mv 8 1,i1 9 (.len false (.t 8)),i1 10 (.bin .neq (.t 7) (.t 9))]) (.cond (.t 10) (.seq (.ops [i1 4 (.move (.c (.bool false)))]) (.ret)) (.skip))
def AcD:Ac := .seq (.draw [mv 16 0,mu 17 5 [0],i1 18 (.iaddr 1 (.t 16) (.t 17)),i1 19 (.load false 1 (.t 18)),mu 20 1 (ur 4),mu 21 5 (ur 5),iu 22 (.iaddr 1 (.t 20) (.t 21)) (ur 4),iu 23 (.load false 1 (.t 22)) (ur 4),i1 24 (.bin .neq (.t 19) (.t 23))]) (.cond (.t 24) (.seq (.ops [i1 4 (.move (.c (.bool false)))]) (.ret)) (.skip))
def AcC:Ac := .seq (.cond (.t 14) (.skip) (.exit 0)) (.seq (.block 1 (.seq (.ops [mv 15 13,mv 5 15]) (AcD))) (.ops [i1 25 (.bin .add (.t 13) (k6 1)),mv 13 25]))
def AcB:Ac := .seq (.ops [mv 11 0,i1 12 (.len false (.t 11)),i1 13 (.move (k6 0))]) (.block 0 (.loop (.seq (.ops [i1 14 (.bin .lss (.t 13) (.t 12))]) (AcC))))
def Aam:AFunc:=⟨2,26,[.tmp 4],
 .seq (.ops [i1 4 (.move (.c (.bool false)))]) (.seq (AcE) (.seq (AcB) (.seq (.ops [i1 4 (.move (.c (.bool true)))]) (.ret))))⟩
def AbV:AFunc:=⟨1,5,[.tmp 2],
 .seq (.ops [i1 1 (.box 6 (.t 0)),i1 2 (.move (.c (.int .u64 0)))]) (.seq (.ops [i1 3 (.faddr 2 (.t 1)),i1 4 (.load false 1 (.t 3)),mv 2 4]) (.ret))⟩
def Abs:AFunc:=⟨1,5,[.tmp 2],
 .seq (.ops [i1 1 (.box 6 (.t 0)),i1 2 (.move (.c (.int .u64 0)))]) (.seq (.ops [i1 3 (.faddr 3 (.t 1)),i1 4 (.load false 1 (.t 3)),mv 2 4]) (.ret))⟩
def Abt:AFunc:=⟨1,6,[.tmp 2],
 .seq (.ops [i1 1 (.box 6 (.t 0)),i1 2 (.move (.c .nils))]) (.seq (.ops [i1 3 (.faddr 0 (.t 1)),i1 4 (.load false 1 (.t 3)),i1 5 (cf Aae [(.t 4)]),mv 2 5]) (.ret))⟩
def Ave:Ac := .seq (.ops [mv 8 0,mv 9 0,i1 10 (.bin .add (.t 8) (.t 9)),mv 11 0,i1 12 (.bin .eql (.t 10) (.t 11))]) (.cond (.t 12) (.seq (.ops [i1 2 (.move (k6 1))]) (.ret)) (.skip))
def Avd:Ac := .seq (.ops [mv 6 0,i1 7 (.bin .lss (.t 6) (.c (.flt .f64 0)))]) (.cond (.t 7) (.seq (Ave) (.seq (.ops [i1 2 (.move (k6 2))]) (.ret))) (.skip))
def Avc:Ac := .seq (.ops [mv 15 0,mv 16 0,i1 17 (.bin .add (.t 15) (.t 16)),mv 18 0,i1 19 (.bin .eql (.t 17) (.t 18))]) (.cond (.t 19) (.seq (.ops [i1 2 (.move (k6 6))]) (.ret)) (.skip))
def Avb:Ac := .seq (.ops [mv 13 0,i1 14 (.bin .gtr (.t 13) (.c (.flt .f64 0)))]) (.cond (.t 14) (.seq (Avc) (.seq (.ops [i1 2 (.move (k6 5))]) (.ret))) (.skip))
def Ava:Ac := .seq (.ops [mv 20 0,i1 21 (.bin .quo (.c (.flt .f64 4607182418800017408)) (.t 20)),i1 22 (.bin .lss (.t 21) (.c (.flt .f64 0)))]) (.cond (.t 22) (.seq (.ops [i1 2 (.move (k6 3))]) (.ret)) (.skip))
def AuZ:Ac := .seq (.seq (.ops [mv 3 0,mv 4 0,i1 5 (.bin .neq (.t 3) (.t 4))]) (.cond (.t 5) (.seq (.ops [i1 2 (.move (k6 0))]) (.ret)) (.skip))) (.seq (Avd) (.seq (Avb) (.seq (Ava) (.seq (.ops [i1 2 (.move (k6 4))]) (.ret)))))
def Ach:AFunc:=⟨1,23,[.tmp 2],
 .seq (.ops [i1 2 (.move (k6 0))]) (AuZ)⟩
def AfS:AFunc:=⟨1,6,[.tmp 2],
 .seq (.ops [i1 2 (.move (.c (.bool false)))]) (.seq (.ops [mv 3 0,mv 4 0,i1 5 (.bin .neq (.t 3) (.t 4)),mv 2 5]) (.ret))⟩
def AbW:Ac := .seq (.seq (.ops [mv 3 0,i1 4 (.isNil .slice false (.t 3))]) (.cond (.t 4) (.seq (.ops [i1 2 (.move (.c .nils))]) (.ret)) (.skip))) (.seq (.ops [i1 5 (.buildSlice [(.flt .f64 0)] 1 0 []),mv 6 0,i1 7 (.append 1 8 (.t 5) (.t 6)),mv 2 7]) (.ret))
def Aak:AFunc:=⟨1,8,[.tmp 2],
 .seq (.ops [i1 2 (.move (.c .nils))]) (AbW)⟩
def Agw:Ac := .seq (.ops [i1 8 (.faddr 0 (.t 2)),i1 9 (.load false 1 (.t 8)),mv 10 1,i1 11 (cf Aag [(.t 9),(.t 10),(.c (.fn (.func Aan) [] []))]),mv 7 11,i1 12 (.extract (.t 7) 0),i1 13 (.extract (.t 7) 1),mv 5 12,mv 6 13]) (.seq (.ops [mv 14 5,mv 4 14]) (.ret))
def AbT:AFunc:=⟨2,15,[.tmp 4],
 .seq (.ops [i1 2 (.box 6 (.t 0)),i1 4 (.move (k6 0))]) (Agw)⟩
def AbG:Ac := .seq (.ops [mv 20 1,mv 21 0,mv 22 6,i1 23 (.iaddr 1 (.t 21) (.t 22)),i1 24 (.load false 1 (.t 23)),mv 25 5,i1 26 (.call (.t 20) [(.t 24),(.t 25)]),i1 27 (.bin .lss (.t 26) (k6 0))]) (.cond (.t 27) (.ops [mv 28 0,mv 29 6,i1 30 (.iaddr 1 (.t 28) (.t 29)),i1 31 (.load false 1 (.t 30)),mv 5 31]) (.skip))
def AbF:Ac := .seq (.seq (.ops [mv 14 6,mv 15 0,i1 16 (.len false (.t 15)),i1 17 (.bin .lss (.t 14) (.t 16))]) (.cond (.t 17) (.skip) (.exit 0))) (.seq (.block 1 (AbG)) (.ops [mv 18 6,i1 19 (.bin .add (.t 18) (k6 1)),mv 6 19]))
def AbE:Ac := .seq (.ops [mv 11 0,i1 12 (.iaddr 1 (.t 11) (k6 0)),i1 13 (.load false 1 (.t 12)),mv 5 13]) (.seq (.seq (.ops [i1 6 (.move (k6 1))]) (.block 0 (.loop (AbF)))) (.seq (.ops [mv 32 5,mv 4 32]) (.ret)))
def AbD:Ac := .seq (.seq (.ops [mv 7 0,i1 8 (.len false (.t 7)),i1 9 (.bin .lss (.t 8) (k6 1))]) (.cond (.t 9) (.ops [i1 10 .bad,i0 .bad]) (.skip))) (AbE)
def Aah:AFunc:=⟨2,33,[.tmp 4],
 .seq (.ops [i1 4 (.move (.c (.flt .f64 0)))]) (AbD)⟩
def AbK:Ac := .seq (.ops [mv 20 1,mv 21 0,mv 22 6,i1 23 (.iaddr 1 (.t 21) (.t 22)),i1 24 (.load false 1 (.t 23)),mv 25 5,i1 26 (.call (.t 20) [(.t 24),(.t 25)]),i1 27 (.bin .gtr (.t 26) (k6 0))]) (.cond (.t 27) (.ops [mv 28 0,mv 29 6,i1 30 (.iaddr 1 (.t 28) (.t 29)),i1 31 (.load false 1 (.t 30)),mv 5 31]) (.skip))
def AbJ:Ac := .seq (.seq (.ops [mv 14 6,mv 15 0,i1 16 (.len false (.t 15)),i1 17 (.bin .lss (.t 14) (.t 16))]) (.cond (.t 17) (.skip) (.exit 0))) (.seq (.block 1 (AbK)) (.ops [mv 18 6,i1 19 (.bin .add (.t 18) (k6 1)),mv 6 19]))
def AbI:Ac := .seq (.ops [mv 11 0,i1 12 (.iaddr 1 (.t 11) (k6 0)),i1 13 (.load false 1 (.t 12)),mv 5 13]) (.seq (.seq (.ops [i1 6 (.move (k6 1))]) (.block 0 (.loop (AbJ)))) (.seq (.ops [mv 32 5,mv 4 32]) (.ret)))
def AbH:Ac := .seq (.seq (.ops [mv 7 0,i1 8 (.len false (.t 7)),i1 9 (.bin .lss (.t 8) (k6 1))]) (.cond (.t 9) (.ops [i1 10 .bad,i0 .bad]) (.skip))) (AbI)
def Aai:AFunc:=⟨2,33,[.tmp 4],
 .seq (.ops [i1 4 (.move (.c (.flt .f64 0)))]) (AbH)⟩
def AuD:Ac := .seq (.ops [mv 14 1,mv 15 6,i1 16 (cf AmF [(.t 14),(.t 15)]),i1 17 (.bin .leq (.t 16) (k6 0))]) (.cond (.t 17) (.seq (.ops [mv 18 5,mv 4 18]) (.ret)) (.skip))
def AuC:Ac := .seq (.block 1 (.seq (.ops [mv 11 9,i1 12 (.iaddr 1 (.t 7) (.t 9)),i1 13 (.load false 1 (.t 12)),mv 5 11,mv 6 13]) (AuD))) (.ops [i1 19 (.bin .add (.t 9) (k6 1)),mv 9 19])
def AuB:Ac := .seq (.ops [mv 7 0,i1 8 (.len false (.t 7)),i1 9 (.move (k6 0))]) (.block 0 (.loop (.seq (.ops [i1 10 (.bin .lss (.t 9) (.t 8))]) (.seq (.cond (.t 10) (.skip) (.exit 0)) (AuC)))))
def Akd:AFunc:=⟨2,22,[.tmp 4],
 .seq (.ops [i1 4 (.move (k6 0))]) (.seq (AuB) (.seq (.ops [mv 20 0,i1 21 (.len false (.t 20)),mv 4 21]) (.ret)))⟩
def AqN:Ac := .cond (.t 19) (.seq (.ops [i1 2 (.move (k6 4))]) (.ret)) (.seq (.ops [mv 23 0,i1 24 (cf Acz [(.t 23),(k6 1)]),mv 22 24]) (.cond (.t 22) (.seq (.ops [i1 2 (.move (k6 6))]) (.ret)) (.skip)))
def AqM:Ac := .cond (.t 12) (.seq (.ops [i1 2 (.move (k6 3))]) (.ret)) (.seq (.ops [mv 20 0,i1 21 (.bin .eql (.t 20) (.c (.flt .f64 0))),mv 19 21]) (AqN))
def AqL:Ac := .seq (.ops [mv 13 0,i1 14 (.bin .eql (.t 13) (.c (.flt .f64 0))),mv 15 14,ig 16 (.move (.t 0)) 15 true,ig 17 (cf AgE [(.t 16)]) 15 true,i1 18 (.pick (.t 15) (.t 17) (.c (.bool false))),mv 12 18]) (AqM)
def AqK:Ac := .cond (.t 6) (.seq (.ops [i1 2 (.move (k6 1))]) (.ret)) (.seq (.ops [mv 10 0,i1 11 (.bin .lss (.t 10) (.c (.flt .f64 0))),mv 9 11]) (.cond (.t 9) (.seq (.ops [i1 2 (.move (k6 2))]) (.ret)) (AqL)))
def AqJ:Ac := .seq (.ops [mv 4 0,i1 5 (cf AdH [(.t 4)]),mv 3 5]) (.cond (.t 3) (.seq (.ops [i1 2 (.move (k6 0))]) (.ret)) (.seq (.ops [mv 7 0,i1 8 (cf Acz [(.t 7),(k6 (-1))]),mv 6 8]) (AqK)))
def AaJ:AFunc:=⟨1,25,[.tmp 2],
 .seq (.ops [i1 2 (.move (k6 0))]) (.seq (.block 0 (AqJ)) (.seq (.ops [i1 2 (.move (k6 5))]) (.ret)))⟩
def Ahm:Ac := .cond (.t 11) (.seq (.seq (.ops [mv 12 6]) (.cond (.t 12) (.seq (.ops [i1 4 (.move (k6 0))]) (.ret)) (.skip))) (.seq (.ops [i1 4 (.move (k6 (-1)))]) (.ret))) (.skip)
def Ahl:Ac := .seq (.seq (.ops [mv 17 0,mv 18 1,i1 19 (.bin .gtr (.t 17) (.t 18))]) (.cond (.t 19) (.seq (.ops [i1 4 (.move (k6 1))]) (.ret)) (.skip))) (.seq (.ops [i1 4 (.move (k6 0))]) (.ret))
def Ahk:Ac := .seq (.seq (.ops [mv 14 0,mv 15 1,i1 16 (.bin .lss (.t 14) (.t 15))]) (.cond (.t 16) (.seq (.ops [i1 4 (.move (k6 (-1)))]) (.ret)) (.skip))) (Ahl)
def Ahj:Ac := .seq (.seq (.ops [mv 11 5]) (Ahm)) (.seq (.seq (.ops [mv 13 6]) (.cond (.t 13) (.seq (.ops [i1 4 (.move (k6 1))]) (.ret)) (.skip))) (Ahk))
def Acj:AFunc:=⟨2,20,[.tmp 4],
 .seq (.ops [i1 4 (.move (k6 0))]) (.seq (.ops [mv 7 0,i1 8 (cf Adl [(.t 7)]),mv 5 8]) (.seq (.ops [mv 9 1,i1 10 (cf Adl [(.t 9)]),mv 6 10]) (Ahj)))⟩
def AeN:Ac := .cond (.t 11) (.seq (.seq (.ops [mv 12 6]) (.cond (.t 12) (.seq (.ops [i1 4 (.move (k6 0))]) (.ret)) (.skip))) (.seq (.ops [i1 4 (.move (k6 (-1)))]) (.ret))) (.skip)
def AeM:Ac := .seq (.seq (.ops [mv 17 0,mv 18 1,i1 19 (.bin .gtr (.t 17) (.t 18))]) (.cond (.t 19) (.seq (.ops [i1 4 (.move (k6 1))]) (.ret)) (.skip))) (.seq (.ops [i1 4 (.move (k6 0))]) (.ret))
def AeL:Ac := .seq (.seq (.ops [mv 14 0,mv 15 1,i1 16 (.bin .lss (.t 14) (.t 15))]) (.cond (.t 16) (.seq (.ops [i1 4 (.move (k6 (-1)))]) (.ret)) (.skip))) (AeM)
def AeK:Ac := .seq (.seq (.ops [mv 11 5]) (AeN)) (.seq (.seq (.ops [mv 13 6]) (.cond (.t 13) (.seq (.ops [i1 4 (.move (k6 1))]) (.ret)) (.skip))) (AeL))
def AaX:AFunc:=⟨2,20,[.tmp 4],
 .seq (.ops [i1 4 (.move (k6 0))]) (.seq (.ops [mv 7 0,i1 8 (cf Abq [(.t 7)]),mv 5 8]) (.seq (.ops [mv 9 1,i1 10 (cf Abq [(.t 9)]),mv 6 10]) (AeK)))⟩
def Aaz:Ac := .seq (.ops [mv 24 2,mv 25 0,mv 26 11,i1 27 (.iaddr 1 (.t 25) (.t 26)),i1 28 (.load false 1 (.t 27)),mv 29 1,i1 30 (.call (.t 24) [(.t 28),(.t 29)]),i1 31 (.bin .lss (.t 30) (k6 0))]) (.cond (.t 31) (.ops [mv 32 11,i1 33 (.bin .add (.t 32) (k6 1)),mv 9 33]) (.ops [mv 34 11,mv 10 34]))
def Aay:Ac := .seq (.ops [mv 18 9,mv 19 10,i1 20 (.bin .add (.t 18) (.t 19)),i1 21 (.conv (.int .u64) (.t 20)),i1 22 (.bin .shr (.t 21) (.c (.int .u64 1))),i1 23 (.conv (.int .i64) (.t 22)),mv 11 23]) (Aaz)
def Aax:Ac := .seq (.seq (.ops [mv 15 9,mv 16 10,i1 17 (.bin .lss (.t 15) (.t 16))]) (.cond (.t 17) (.skip) (.exit 0))) (.block 1 (Aay))
def Aaw:Ac := .seq (.ops [mv 35 9,mv 36 9,mv 37 8,i1 38 (.bin .lss (.t 36) (.t 37)),mv 39 38,ig 40 (.move (.t 2)) 39 true,ig 41 (.move (.t 0)) 39 true,ig 42 (.move (.t 9)) 39 true,ig 43 (.iaddr 1 (.t 41) (.t 42)) 39 true,ig 44 (.load false 1 (.t 43)) 39 true,ig 45 (.move (.t 1)) 39 true,ig 46 (.call (.t 40) [(.t 44),(.t 45)]) 39 true,ig 47 (.bin .eql (.t 46) (k6 0)) 39 true,i1 48 (.pick (.t 39) (.t 47) (.c (.bool false))),mv 6 35,mv 7 48]) (.ret)
def Aav:Ac := .seq (.ops [mv 14 8,i1 9 (.move (k6 0)),mv 10 14]) (.seq (.block 0 (.loop (Aax))) (Aaw))
def Aad:AFunc:=⟨3,49,[.tmp 6,.tmp 7],
 .seq (.ops [i1 6 (.move (k6 0)),i1 7 (.move (.c (.bool false)))]) (.seq (.ops [mv 12 0,i1 13 (.len false (.t 12)),mv 8 13]) (Aav))⟩
def Aoo:Ac := .cond (.t 6) (.ops [mv 7 0,i1 8 (cf Bbl [(.t 7)]),mv 0 8]) (.seq (.ops [mv 9 1,i1 10 (.bin .lss (.t 9) (k6 0))]) (.cond (.t 10) (.ops [mv 11 0,i1 12 (.un .neg (.t 11)),mv 0 12]) (.skip)))
def Aon:Ac := .seq (.seq (.ops [mv 5 1,i1 6 (.bin .eql (.t 5) (k6 0))]) (Aoo)) (.seq (.ops [mv 13 0,i1 14 (.bin .gtr (.t 13) (.c (.flt .f64 9218868437227405311))),mv 4 14]) (.ret))
def AdN:AFunc:=⟨2,15,[.tmp 4],
 .seq (.ops [i1 4 (.move (.c (.bool false)))]) (Aon)⟩
def Aea:AFunc:=⟨1,7,[.tmp 2],
 .seq (.ops [i1 2 (.move (.c (.bool false)))]) (.seq (.ops [mv 3 0,i1 4 (cf AdI [(.t 3)]),i1 5 (.conv (.int .i64) (.t 4)),i1 6 (.bin .lss (.t 5) (k6 0)),mv 2 6]) (.ret))⟩
def Adq:AFunc:=⟨1,6,[.tmp 2],
 .seq (.ops [i1 2 (.move (.c (.bool false)))]) (.seq (.ops [mv 3 0,mv 4 0,i1 5 (.bin .neq (.t 3) (.t 4)),mv 2 5]) (.ret))⟩
def Abu:AFunc:=⟨1,6,[.tmp 2],
 .seq (.ops [i1 2 (.move (.c (.bool false)))]) (.seq (.ops [mv 3 0,mv 4 0,i1 5 (.bin .neq (.t 3) (.t 4)),mv 2 5]) (.ret))⟩
def Apw:AFunc:=⟨1,7,[.tmp 2],
 .seq (.ops [i1 2 (.move (.c (.flt .f64 0)))]) (.seq (.ops [mv 3 0,i1 4 (cf AdI [(.t 3)]),i1 5 (.bin .andNot (.t 4) (.c (.int .u64 9223372036854775808))),i1 6 (cf AaO [(.t 5)]),mv 2 6]) (.ret))⟩
def fnG (n:Nat):Option AFunc:=(bif Nat.blt n 73 then (bif Nat.blt n 24 then (bif Nat.blt n 17 then (bif Nat.blt n 14 then (bif Nat.blt n 13 then (bif Nat.beq n 5 then some c_l30_GaugeJoins else none) else (bif Nat.beq n 13 then some Ank else none)) else (bif Nat.blt n 16 then (bif Nat.beq n 14 then some ArQ else none) else (bif Nat.beq n 16 then some Abs else none))) else (bif Nat.blt n 21 then (bif Nat.blt n 18 then (bif Nat.beq n 17 then some AbU else none) else (bif Nat.beq n 18 then some Akc else none)) else (bif Nat.blt n 22 then (bif Nat.beq n 21 then some Aam else none) else (bif Nat.blt n 23 then (bif Nat.beq n 22 then some Abg else none) else (bif Nat.beq n 23 then some AbV else none))))) else (bif Nat.blt n 29 then (bif Nat.blt n 26 then (bif Nat.blt n 25 then (bif Nat.beq n 24 then some Ahz else none) else (bif Nat.beq n 25 then some c_gauge_Gauge_Join else none)) else (bif Nat.blt n 27 then (bif Nat.beq n 26 then some ArR else none) else (bif Nat.blt n 28 then (bif Nat.beq n 27 then some Aac else none) else (bif Nat.beq n 28 then some AeQ else none)))) else (bif Nat.blt n 59 then (bif Nat.blt n 31 then (bif Nat.beq n 29 then some Abt else none) else (bif Nat.beq n 31 then some AdN else none)) else (bif Nat.blt n 68 then (bif Nat.beq n 59 then some Apw else none) else (bif Nat.blt n 70 then (bif Nat.beq n 68 then some Aaj else none) else (bif Nat.beq n 70 then some Akk else none)))))) else (bif Nat.blt n 85 then (bif Nat.blt n 80 then (bif Nat.blt n 76 then (bif Nat.blt n 74 then (bif Nat.beq n 73 then some AfR else none) else (bif Nat.beq n 74 then some Abf else none)) else (bif Nat.blt n 77 then (bif Nat.beq n 76 then some Acj else none) else (bif Nat.blt n 78 then (bif Nat.beq n 77 then some AaJ else none) else (bif Nat.beq n 78 then some AaX else none)))) else (bif Nat.blt n 82 then (bif Nat.blt n 81 then (bif Nat.beq n 80 then some AfN else none) else (bif Nat.beq n 81 then some AhA else none)) else (bif Nat.blt n 83 then (bif Nat.beq n 82 then some AjX else none) else (bif Nat.blt n 84 then (bif Nat.beq n 83 then some AfO else none) else (bif Nat.beq n 84 then some AfS else none))))) else (bif Nat.blt n 143 then (bif Nat.blt n 140 then (bif Nat.blt n 138 then (bif Nat.beq n 85 then some Aak else none) else (bif Nat.beq n 138 then some AbT else none)) else (bif Nat.blt n 141 then (bif Nat.beq n 140 then some Ach else none) else (bif Nat.blt n 142 then (bif Nat.beq n 141 then some Adq else none) else (bif Nat.beq n 142 then some Aea else none)))) else (bif Nat.blt n 145 then (bif Nat.blt n 144 then (bif Nat.beq n 143 then some Abu else none) else (bif Nat.beq n 144 then some Aah else none)) else (bif Nat.blt n 146 then (bif Nat.beq n 145 then some Aai else none) else (bif Nat.blt n 204 then (bif Nat.beq n 146 then some Akd else none) else (bif Nat.beq n 204 then some Aad else none)))))))
def pureG (n:Nat):Option (List Zv→Option Zv):=bif Nat.beq n 12 then some (fun l=>match l with
 | []=>some (.bool true)
 | _=>none) else bif Nat.beq n 136 then some AfA else bif Nat.beq n 137 then some BbV else none
def APg:Aaa:={fn:=fnG,keep:=fun n=>Nat.beq n 85,split:=fun n=>Nat.beq n 85,share:=fun n=>Nat.beq n 74,prim:=fun _=>none,pure:=pureG,slim:=true}
end Go.Eng.Ga
namespace Go.Eng.Ga
open Go Go.Eng
variable [Inhabited GlobT]
attribute [local irreducible] OpR TL TD TC TS Ak
abbrev fl (w:Nat):Zv := .flt .f64 w
abbrev W64 (w:Nat):Prop:=w<18446744073709551616
theorem Aix (w:Nat) (hw:W64 w):Ak APg AdH [fl w] (.bool (fN w)):=by
 have h:(FloatKind.f64.format.order w w != some .eq)=fN w:=by rw [fo_ne hw hw];simp
 rw [←h]
 refine Al (af:=AfS) rfl rfl ?_
 refine tS (tO (tR 1 rfl (tN (tS (tO (tR 4 rfl ?_))))))
 refine tN ?_;exact tT (AS rfl ⟨_,fzO rfl⟩)
theorem Avw (w:Nat) (hw:W64 w):Ak APg Abq [fl w] (.bool (fN w)):=by
 have h:(FloatKind.f64.format.order w w != some .eq)=fN w:=by rw [fo_ne hw hw];simp
 rw [←h]
 refine Al (af:=Abu) rfl rfl ?_
 refine tS (tO (tR 1 rfl (tN (tS (tO (tR 4 rfl ?_))))))
 refine tN ?_;exact tT (AS rfl ⟨_,fzO rfl⟩)
theorem Azh {w:Nat} (hw:W64 w):W64 (Op.negFloat .f64 w)∧fR (Op.negFloat .f64 w)=fR w∧fS (Op.negFloat .f64 w) = !fS w:=by
 have e:Op.negFloat .f64 w=w ^^^ 2^63:=rfl
 have h1:=Nat.xor_mod_two_pow (a:=w) (b:=2^63) (n:=63)
 have h2:=Nat.xor_div_two_pow (a:=w) (b:=2^63) (n:=63)
 rw [e]
 generalize w ^^^ 2^63=v at *
 have h3:w / 2^63=0∨w / 2^63=1:=by unfold W64 at hw;omega
 have h4:(2:Nat)^63%2^63=0:=by decide
 rw [h4,Nat.xor_zero] at h1
 unfold W64 fR fS
 rcases h3 with h | h
 ·rw [h] at h2
  have h2:v / 2^63=1:=h2
  refine⟨by omega,h1,?_⟩
  rw [decide_eq_true (by omega),decide_eq_false (by omega)];rfl
 ·rw [h] at h2
  have h2:v / 2^63=0:=h2
  refine⟨by omega,h1,?_⟩
  rw [decide_eq_false (by omega),decide_eq_true (by omega)];rfl
theorem fN_neg {w:Nat} (hw:W64 w):fN (Op.negFloat .f64 w)=fN w:=by unfold fN;rw [(Azh hw).2.1]
theorem gt_max {w:Nat} (hw:W64 w):(FloatKind.f64.format.order w 9218868437227405311 == some .gt)=(!fN w && !fS w && decide (fR w=infR)):=by
 rw [Bbd hw (by omega)]
 have h1:fN 9218868437227405311=false:=by decide
 have h2:fK 9218868437227405311=9218868437227405311:=by decide
 rw [h1,h2]
 unfold fK fN infR
 rcases Nat.lt_or_ge 9218868437227405312 (fR w) with h | h
 ·rw [decide_eq_true h];rfl
 ·rw [decide_eq_false (by omega:¬ 9218868437227405312<fR w)]
  cases fS w
  ·simp
   omega
  ·simp
theorem Azu (w:Nat) (hw:W64 w):Ak APg Acz [fl w,.int .i64 1] (.bool (!fN w && !fS w && decide (fR w=infR))):=by
 rw [←gt_max hw]
 refine Al (af:=AdN) rfl rfl ?_
 refine tS (tO (tR 1 rfl (tN (tS (tS (tO ?_))))))
 refine tR 2 rfl (tN ?_);refine AI (t:=false) rfl (fun h=>nomatch h) (fun _=>?_);refine tS (tO ?_)
 refine tR 2 rfl (tN ?_);refine AI (t:=false) rfl (fun h=>nomatch h) (fun _=>?_);refine tK (tS ?_)
 refine tO (tR 3 rfl (tN ?_));exact tT (AS rfl ⟨_,fzO rfl⟩)
theorem isInfM_ok (w:Nat) (hw:W64 w):Ak APg Acz [fl w,.int .i64 (-1)] (.bool (!fN w && fS w && decide (fR w=infR))):=by
 obtain⟨h1,h2,h3⟩:=Azh hw
 have:=gt_max h1
 rw [fN_neg hw,h2,h3,Bool.not_not] at this
 rw [←this]
 refine Al (af:=AdN) rfl rfl ?_
 refine tS (tO (tR 1 rfl (tN (tS (tS (tO ?_))))))
 refine tR 2 rfl (tN ?_);refine AI (t:=false) rfl (fun h=>nomatch h) (fun _=>?_);refine tS (tO ?_)
 refine tR 2 rfl (tN ?_);refine AI (t:=true) rfl (fun _=>?_) (fun h=>nomatch h);refine tO (tR 1 rfl ?_)
 refine tP (o_un rfl rfl) rfl rfl rfl rfl ?_
 refine tR 1 rfl (tN (tS (tO (tR 3 rfl (tN ?_)))))
 exact tT (AS rfl ⟨_,fzO rfl⟩)
theorem Bas (w:Nat) (hw:W64 w):Ak APg AgE [fl w] (.bool (fS w)):=by
 have h:decide (IntKind.wrap .i64 (w:Int)<0)=fS w:=by
  unfold fS
  refine decide_eq_decide.2 ?_
  simp [IntKind.wrap,IntKind.signed,IntKind.bits]
  unfold W64 at hw
  split<;>omega
 rw [←h]
 refine Al (af:=Aea) rfl rfl ?_
 refine tS (tO (tR 1 rfl (tN (tS (tO (tR 2 rfl ?_))))))
 refine tP (Amn rfl) rfl rfl rfl rfl ?_
 refine tR 2 rfl (tN ?_);exact tT (AS rfl ⟨_,fzO rfl⟩)
def kd (w:Nat):Nat:=if fN w then 0 else if fS w then (if fR w=infR then 1 else if fR w=0 then 3 else 2) else (if fR w=infR then 6 else if fR w=0 then 4 else 5)
theorem fo_z (w:Nat) (hw:W64 w):(FloatKind.f64.format.order w 0 == some .lt)=(!fN w && decide (fK w<0))∧(FloatKind.f64.format.order w 0 == some .eq)=(!fN w && decide (fK w=0)):=by
 have h1:fN 0=false:=by decide
 have h2:fK 0=0:=by decide
 rw [fo_lt hw (by omega),fo_eq hw (by omega),h1,h2]
 simp
theorem kind_ok (w:Nat) (hw:W64 w):Ak APg AeH [fl w] (.int .i64 (kd w:Int)):=by
 have hn:=Aix w hw
 have hi:=Azu w hw
 have hm:=isInfM_ok w hw
 have hs:=Bas w hw
 obtain⟨hz,he⟩:=fo_z w hw
 have hR:=fR_lt w
 unfold kd
 by_cases c0:fN w=true
 ·rw [c0] at hn ⊢
  refine Al (af:=AaJ) rfl rfl ?_
  refine tS (tO (tR 1 rfl (tN (tS ?_))));refine tB ?_;refine tS (tO ?_)
  refine tR 1 rfl ?_;refine tC rfl rfl (hn) rfl rfl rfl rfl rfl rfl ?_;refine tR 1 rfl (tN ?_)
  refine AI (t:=true) rfl (fun _=>?_) (fun h=>nomatch h);refine tS (tO (tR 1 rfl (tN ?_)))
  exact tT (AS rfl ⟨_,fzO rfl⟩)
 have c0:fN w=false:=by simpa using c0
 rw [c0] at hn hi hm hz he ⊢
 by_cases c2:fR w=infR
 ·rw [decide_eq_true c2] at hi hm
  cases c1:fS w
  ·rw [c1] at hi hm
   have k:fK w=infR:=by unfold fK;rw [c1,c2];rfl
   rw [k] at hz he
   rw [if_pos c2,if_pos c2]
   refine Al (af:=AaJ) rfl rfl ?_
   refine tS (tO (tR 1 rfl (tN (tS ?_))));refine tB ?_;refine tS (tO ?_)
   refine tR 1 rfl ?_;refine tC rfl rfl (hn) rfl rfl rfl rfl rfl rfl ?_;refine tR 1 rfl (tN ?_)
   refine AI (t:=false) rfl (fun h=>nomatch h) (fun _=>?_);refine tS (tO (tR 1 rfl ?_))
   refine tC rfl rfl (hm) rfl rfl rfl rfl rfl rfl ?_;refine tR 1 rfl (tN ?_)
   refine AI (t:=false) rfl (fun h=>nomatch h) (fun _=>?_);refine tS (tO (tR 3 rfl (tN ?_)))
   rw [show (FloatKind.f64.format.order w 0 == some .lt)=false from hz]
   refine AI (t:=false) rfl (fun h=>nomatch h) (fun _=>?_);refine tS (tO (tR 3 rfl ?_))
   rw [show (FloatKind.f64.format.order w 0 == some .eq)=false from he]
   refine tR 4 rfl (tN ?_);refine AI (t:=false) rfl (fun h=>nomatch h) (fun _=>?_);refine tS (tO ?_)
   refine tR 3 rfl (tN ?_)
   rw [show (FloatKind.f64.format.order w 0 == some .eq)=false from he]
   refine AI (t:=false) rfl (fun h=>nomatch h) (fun _=>?_);refine tS (tO (tR 1 rfl ?_))
   refine tC rfl rfl (hi) rfl rfl rfl rfl rfl rfl ?_;refine tR 1 rfl (tN ?_)
   refine AI (t:=true) rfl (fun _=>?_) (fun h=>nomatch h);refine tS (tO (tR 1 rfl (tN ?_)))
   exact tT (AS rfl ⟨_,fzO rfl⟩)
  ·rw [c1] at hi hm
   rw [if_pos c2,if_pos c2]
   refine Al (af:=AaJ) rfl rfl ?_
   refine tS (tO (tR 1 rfl (tN (tS ?_))));refine tB ?_;refine tS (tO ?_)
   refine tR 1 rfl ?_;refine tC rfl rfl (hn) rfl rfl rfl rfl rfl rfl ?_;refine tR 1 rfl (tN ?_)
   refine AI (t:=false) rfl (fun h=>nomatch h) (fun _=>?_);refine tS (tO (tR 1 rfl ?_))
   refine tC rfl rfl (hm) rfl rfl rfl rfl rfl rfl ?_;refine tR 1 rfl (tN ?_)
   refine AI (t:=true) rfl (fun _=>?_) (fun h=>nomatch h);refine tS (tO (tR 1 rfl (tN ?_)))
   exact tT (AS rfl ⟨_,fzO rfl⟩)
 rw [decide_eq_false c2] at hi hm
 by_cases c3:fR w=0
 ·have k:fK w=0:=by unfold fK;rw [c3];cases fS w<;>rfl
  rw [k] at hz he
  rw [if_neg c2,if_neg c2,if_pos c3,if_pos c3]
  cases c1:fS w
  ·rw [c1] at hi hm hs
   refine Al (af:=AaJ) rfl rfl ?_
   refine tS (tO (tR 1 rfl (tN (tS ?_))));refine tB ?_;refine tS (tO ?_)
   refine tR 1 rfl ?_;refine tC rfl rfl (hn) rfl rfl rfl rfl rfl rfl ?_;refine tR 1 rfl (tN ?_)
   refine AI (t:=false) rfl (fun h=>nomatch h) (fun _=>?_);refine tS (tO (tR 1 rfl ?_))
   refine tC rfl rfl (hm) rfl rfl rfl rfl rfl rfl ?_;refine tR 1 rfl (tN ?_)
   refine AI (t:=false) rfl (fun h=>nomatch h) (fun _=>?_);refine tS (tO (tR 3 rfl (tN ?_)))
   rw [show (FloatKind.f64.format.order w 0 == some .lt)=false from hz]
   refine AI (t:=false) rfl (fun h=>nomatch h) (fun _=>?_);refine tS (tO (tR 3 rfl ?_))
   rw [show (FloatKind.f64.format.order w 0 == some .eq)=true from he]
   refine tR 1 rfl ?_;refine tC rfl rfl (hs) rfl rfl rfl rfl rfl rfl ?_;refine tR 2 rfl (tN ?_)
   refine AI (t:=false) rfl (fun h=>nomatch h) (fun _=>?_);refine tS (tO (tR 3 rfl (tN ?_)))
   rw [show (FloatKind.f64.format.order w 0 == some .eq)=true from he]
   refine AI (t:=true) rfl (fun _=>?_) (fun h=>nomatch h);refine tS (tO (tR 1 rfl (tN ?_)))
   exact tT (AS rfl ⟨_,fzO rfl⟩)
  ·rw [c1] at hi hm hs
   refine Al (af:=AaJ) rfl rfl ?_
   refine tS (tO (tR 1 rfl (tN (tS ?_))));refine tB ?_;refine tS (tO ?_)
   refine tR 1 rfl ?_;refine tC rfl rfl (hn) rfl rfl rfl rfl rfl rfl ?_;refine tR 1 rfl (tN ?_)
   refine AI (t:=false) rfl (fun h=>nomatch h) (fun _=>?_);refine tS (tO (tR 1 rfl ?_))
   refine tC rfl rfl (hm) rfl rfl rfl rfl rfl rfl ?_;refine tR 1 rfl (tN ?_)
   refine AI (t:=false) rfl (fun h=>nomatch h) (fun _=>?_);refine tS (tO (tR 3 rfl (tN ?_)))
   rw [show (FloatKind.f64.format.order w 0 == some .lt)=false from hz]
   refine AI (t:=false) rfl (fun h=>nomatch h) (fun _=>?_);refine tS (tO (tR 3 rfl ?_))
   rw [show (FloatKind.f64.format.order w 0 == some .eq)=true from he]
   refine tR 1 rfl ?_;refine tC rfl rfl (hs) rfl rfl rfl rfl rfl rfl ?_;refine tR 2 rfl (tN ?_)
   refine AI (t:=true) rfl (fun _=>?_) (fun h=>nomatch h);refine tS (tO (tR 1 rfl (tN ?_)))
   exact tT (AS rfl ⟨_,fzO rfl⟩)
 ·rw [if_neg c2,if_neg c2,if_neg c3,if_neg c3]
  cases c1:fS w
  ·rw [c1] at hi hm hs
   have k:¬ fK w<0∧¬ fK w=0:=by unfold fK;rw [c1];simp;omega
   rw [decide_eq_false k.1] at hz
   rw [decide_eq_false k.2] at he
   refine Al (af:=AaJ) rfl rfl ?_
   refine tS (tO (tR 1 rfl (tN (tS ?_))));refine tB ?_;refine tS (tO ?_)
   refine tR 1 rfl ?_;refine tC rfl rfl (hn) rfl rfl rfl rfl rfl rfl ?_;refine tR 1 rfl (tN ?_)
   refine AI (t:=false) rfl (fun h=>nomatch h) (fun _=>?_);refine tS (tO (tR 1 rfl ?_))
   refine tC rfl rfl (hm) rfl rfl rfl rfl rfl rfl ?_;refine tR 1 rfl (tN ?_)
   refine AI (t:=false) rfl (fun h=>nomatch h) (fun _=>?_);refine tS (tO (tR 3 rfl (tN ?_)))
   rw [show (FloatKind.f64.format.order w 0 == some .lt)=false from hz]
   refine AI (t:=false) rfl (fun h=>nomatch h) (fun _=>?_);refine tS (tO (tR 3 rfl ?_))
   rw [show (FloatKind.f64.format.order w 0 == some .eq)=false from he]
   refine tR 4 rfl (tN ?_);refine AI (t:=false) rfl (fun h=>nomatch h) (fun _=>?_);refine tS (tO ?_)
   refine tR 3 rfl (tN ?_)
   rw [show (FloatKind.f64.format.order w 0 == some .eq)=false from he]
   refine AI (t:=false) rfl (fun h=>nomatch h) (fun _=>?_);refine tS (tO (tR 1 rfl ?_))
   refine tC rfl rfl (hi) rfl rfl rfl rfl rfl rfl ?_;refine tR 1 rfl (tN ?_)
   refine AI (t:=false) rfl (fun h=>nomatch h) (fun _=>?_);refine tK (tS (tO (tR 1 rfl ?_)))
   refine tN ?_;exact tT (AS rfl ⟨_,fzO rfl⟩)
  ·rw [c1] at hi hm hs
   have k:fK w<0:=by unfold fK;rw [c1];simp;omega
   rw [decide_eq_true k] at hz
   refine Al (af:=AaJ) rfl rfl ?_
   refine tS (tO (tR 1 rfl (tN (tS ?_))));refine tB ?_;refine tS (tO ?_)
   refine tR 1 rfl ?_;refine tC rfl rfl (hn) rfl rfl rfl rfl rfl rfl ?_;refine tR 1 rfl (tN ?_)
   refine AI (t:=false) rfl (fun h=>nomatch h) (fun _=>?_);refine tS (tO (tR 1 rfl ?_))
   refine tC rfl rfl (hm) rfl rfl rfl rfl rfl rfl ?_;refine tR 1 rfl (tN ?_)
   refine AI (t:=false) rfl (fun h=>nomatch h) (fun _=>?_);refine tS (tO (tR 3 rfl (tN ?_)))
   rw [show (FloatKind.f64.format.order w 0 == some .lt)=true from hz]
   refine AI (t:=true) rfl (fun _=>?_) (fun h=>nomatch h);refine tS (tO (tR 1 rfl (tN ?_)))
   exact tT (AS rfl ⟨_,fzO rfl⟩)
def cmpI (x y:Int):Int:=if x<y then -1 else if y<x then 1 else 0
theorem Atb (x:Int):Ak APg Adl [.int .i64 x] (.bool false):=by
 have h:(x != x)=false:=by simp
 rw [←h]
 refine Al (af:=Adq) rfl rfl ?_
 refine tS (tO (tR 1 rfl (tN (tS (tO (tR 4 rfl ?_))))))
 refine tN ?_;exact tT (AS rfl ⟨_,fzO rfl⟩)
theorem Ayd (x y:Int):Ak APg Aes [.int .i64 x,.int .i64 y] (.int .i64 (cmpI x y)):=by
 have h1:=Atb x
 have h2:=Atb y
 unfold cmpI
 refine Al (af:=Acj) rfl rfl ?_
 refine tS (tO (tR 1 rfl (tN (tS (tO (tR 1 rfl ?_))))))
 refine tC rfl rfl (h1) rfl rfl rfl rfl rfl rfl ?_;refine tR 1 rfl (tN (tS (tO ?_)))
 refine tR 1 rfl ?_;refine tC rfl rfl (h2) rfl rfl rfl rfl rfl rfl ?_;refine tR 1 rfl (tN (tS ?_))
 refine tS (tO (tR 1 rfl (tN ?_)));refine AI (t:=false) rfl (fun h=>nomatch h) (fun _=>?_)
 refine tK (tS (tS (tO (tR 1 rfl (tN ?_)))))
 refine AI (t:=false) rfl (fun h=>nomatch h) (fun _=>?_);refine tK (tS (tS (tO ?_)))
 refine tR 3 rfl (tN ?_)
 refine tQ rfl decide_eq_true_iff (fun h=>?_) (fun h=>?_)
 ·rw [if_pos h];(refine tS (tO (tR 1 rfl (tN ?_)));exact tT (AS rfl ⟨_,fzO rfl⟩))
 rw [if_neg h]
 refine tK (tS (tS (tO (tR 3 rfl (tN ?_)))))
 refine tQ rfl decide_eq_true_iff (fun h=>?_) (fun h=>?_)
 ·rw [if_pos h];(refine tS (tO (tR 1 rfl (tN ?_)));exact tT (AS rfl ⟨_,fzO rfl⟩))
 rw [if_neg h]
 refine tK (tS (tO (tR 1 rfl (tN ?_))));exact tT (AS rfl ⟨_,fzO rfl⟩)
theorem Aye (x y:Nat) (hx:W64 x) (hy:W64 y) (nx:fN x=false) (ny:fN y=false):Ak APg AcA [fl x,fl y] (.int .i64 (cmpI (fK x) (fK y))):=by
 have h1:=Avw x hx
 have h2:=Avw y hy
 have hl:=fo_lt hx hy
 have hg:=Bbd hx hy
 rw [nx] at h1 hl hg
 rw [ny] at h2 hl hg
 unfold cmpI
 refine Al (af:=AaX) rfl rfl ?_
 refine tS (tO (tR 1 rfl (tN (tS (tO (tR 1 rfl ?_))))))
 refine tC rfl rfl (h1) rfl rfl rfl rfl rfl rfl ?_;refine tR 1 rfl (tN (tS (tO ?_)))
 refine tR 1 rfl ?_;refine tC rfl rfl (h2) rfl rfl rfl rfl rfl rfl ?_;refine tR 1 rfl (tN (tS ?_))
 refine tS (tO (tR 1 rfl (tN ?_)));refine AI (t:=false) rfl (fun h=>nomatch h) (fun _=>?_)
 refine tK (tS (tS (tO (tR 1 rfl (tN ?_)))))
 refine AI (t:=false) rfl (fun h=>nomatch h) (fun _=>?_);refine tK (tS (tS (tO ?_)))
 refine tR 3 rfl (tN ?_)
 rw [show (FloatKind.f64.format.order x y == some .lt)=decide (fK x<fK y) from hl]
 refine tQ rfl decide_eq_true_iff (fun h=>?_) (fun h=>?_)
 ·rw [if_pos h];(refine tS (tO (tR 1 rfl (tN ?_)));exact tT (AS rfl ⟨_,fzO rfl⟩))
 rw [if_neg h]
 refine tK (tS (tS (tO (tR 3 rfl (tN ?_)))))
 rw [show (FloatKind.f64.format.order x y == some .gt)=decide (fK y<fK x) from hg]
 refine tQ rfl decide_eq_true_iff (fun h=>?_) (fun h=>?_)
 ·rw [if_pos h];(refine tS (tO (tR 1 rfl (tN ?_)));exact tT (AS rfl ⟨_,fzO rfl⟩))
 rw [if_neg h]
 refine tK (tS (tO (tR 1 rfl (tN ?_))));exact tT (AS rfl ⟨_,fzO rfl⟩)
def cmpF (a b:Nat):Int:=cmpI (fT a) (fT b)
theorem Alo (w:Nat):(fN w=true∧kd w=0∧fT w = -18446744073709551616)∨(fN w=false∧((kd w=1∧fT w = -9218868437227405313∧fK w = -9218868437227405312) ∨
 (kd w=2∧fT w=fK w - 1∧fK w<0 ∧ -9218868437227405312<fK w)∨(kd w=3∧fT w = -1∧fK w=0)∨(kd w=4∧fT w=0∧fK w=0) ∨
 (kd w=5∧fT w=fK w∧0<fK w∧fK w<9218868437227405312)∨(kd w=6∧fT w=9218868437227405312∧fK w=9218868437227405312))):=by
 have hR:=fR_lt w
 unfold kd fT fK
 cases h:fN w
 ·refine .inr ⟨rfl,?_⟩
  have h2:¬ infR<fR w:=by unfold fN at h;simpa using h
  unfold infR at *
  cases fS w<;>simp only [Bool.false_eq_true,if_false,if_true]
  ·by_cases c1:fR w=9218868437227405312
   ·rw [c1];simp
   ·by_cases c2:fR w=0
    ·rw [c2];simp
    ·simp only [if_neg c1,if_neg c2];simp;omega
  ·by_cases c1:fR w=9218868437227405312
   ·rw [c1];simp
   ·by_cases c2:fR w=0
    ·rw [c2];simp
    ·simp only [if_neg c1,if_neg c2];simp;omega
 ·exact .inl ⟨rfl,rfl,rfl⟩
theorem Anb {x y:Int} (h:x<y):cmpI x y = -1:=if_pos h
theorem AjT {x y:Int} (h:y<x):cmpI x y=1:=by unfold cmpI;rw [if_neg (by omega),if_pos h]
theorem ArN {x y:Int} (h:x=y):cmpI x y=0:=by unfold cmpI;rw [if_neg (by omega),if_neg (by omega)]
theorem AyT (a b:Nat):cmpF a b=if cmpI (kd a) (kd b)≠0 then cmpI (kd a) (kd b) else if kd a=0 then 0 else cmpI (fK a) (fK b):=by
 unfold cmpF
 rcases Alo a with⟨_,h1,h2⟩ | ⟨_,ha⟩
 ·rcases Alo b with⟨_,g1,g2⟩ | ⟨_,hb⟩
  ·rw [h1,h2,g1,g2,ArN rfl,ArN rfl];rfl
  ·rw [Anb (by omega),Anb (by omega:(kd a:Int)<kd b)];rfl
 ·rcases Alo b with⟨_,g1,g2⟩ | ⟨_,hb⟩
  ·rw [AjT (by omega),AjT (by omega:(kd b:Int)<kd a)];rfl
  ·rw [if_neg (by omega:¬ kd a=0)]
   rcases Nat.lt_trichotomy (kd a) (kd b) with h | h | h
   ·rw [Anb (by omega),Anb (by omega:(kd a:Int)<kd b)];rfl
   ·rw [ArN (by omega:(kd a:Int)=kd b),if_neg (by decide)]
    have e1:fT a<fT b↔fK a<fK b:=by omega
    have e2:fT b<fT a↔fK b<fK a:=by omega
    unfold cmpI
    simp only [e1,e2]
   ·rw [AjT (by omega),AjT (by omega:(kd b:Int)<kd a)];rfl
theorem kd0 (w:Nat):(kd w=0)↔fN w=true:=by
 rcases Alo w with⟨h,h1,_⟩ | ⟨h,h1⟩
 ·rw [h,h1];simp
 ·rw [h];simp;omega
theorem AkR (a b:Nat) (ha:W64 a) (hb:W64 b):Ak APg Aan [fl a,fl b] (.int .i64 (cmpF a b)):=by
 have h1:=kind_ok a ha
 have h2:=kind_ok b hb
 have h3:=Ayd (kd a) (kd b)
 rw [AyT]
 refine Al (af:=Akc) rfl rfl ?_
 refine tS (tO (tR 1 rfl (tN (tS (tS (tO ?_))))))
 refine tR 1 rfl ?_;refine tC rfl rfl (h1) rfl rfl rfl rfl rfl rfl ?_;refine tR 1 rfl ?_
 refine tC rfl rfl (h2) rfl rfl rfl rfl rfl rfl ?_;refine tC rfl rfl (h3) rfl rfl rfl rfl rfl rfl ?_;refine tR 1 rfl ?_
 refine tN (tS (tO (tR 2 rfl (tN ?_))))
 refine tQ rfl bne_iff_ne (fun h=>?_) (fun h=>tK ?_)
 ·rw [if_pos h];(refine tS (tO (tR 2 rfl (tN ?_)));exact tT (AS rfl ⟨_,fzO rfl⟩))
 rw [if_neg h]
 refine tS (tS (tO (tR 1 rfl ?_)));refine tC rfl rfl (h1) rfl rfl rfl rfl rfl rfl ?_
 refine tR 1 rfl (tN ?_)
 refine tQ rfl beq_iff_eq (fun g=>?_) (fun g=>tK ?_)
 ·rw [if_pos (by omega)];(refine tS (tO (tR 1 rfl (tN ?_)));exact tT (AS rfl ⟨_,fzO rfl⟩))
 rw [if_neg (by omega)]
 have n1:fN a=false:=by
  cases h:fN a
  ·rfl
  ·exact absurd ((kd0 a).2 h) (by omega)
 have n2:fN b=false:=by
  cases h':fN b
  ·rfl
  ·have:=(kd0 b).2 h'
   rw [this] at h
   exact absurd (show cmpI (kd a) ((0:Nat):Int)≠0 by rw [AjT (by omega)];decide) h
 have h4:=Aye a b ha hb n1 n2
 refine tS (tO (tR 2 rfl ?_));refine tC rfl rfl (h4) rfl rfl rfl rfl rfl rfl ?_;refine tR 1 rfl ?_
 refine tN ?_;exact tT (AS rfl ⟨_,fzO rfl⟩)
theorem cmpI_zero (x y:Int):cmpI x y=0↔x=y:=by unfold cmpI;split<;>(try split)<;>omega
def sameF (a b:Nat):Bool:=decide (fT a=fT b)
theorem Aji (a b:Nat) (ha:W64 a) (hb:W64 b):Ak APg Abo [fl a,fl b] (.bool (sameF a b)):=by
 have h1:=AkR a b ha hb
 have e:(cmpF a b == 0)=sameF a b:=by
  unfold sameF cmpF
  rw [Bool.eq_iff_iff];simp [cmpI_zero]
 rw [←e]
 refine Al (af:=Ahz) rfl rfl ?_
 refine tS (tO (tR 1 rfl (tN (tS (tO (tR 2 rfl ?_))))))
 refine tC rfl rfl (h1) rfl rfl rfl rfl rfl rfl ?_;refine tR 2 rfl (tN ?_);exact tT (AS rfl ⟨_,fzO rfl⟩)
end Go.Eng.Ga
namespace Go.Eng.Ga
open Go Go.Eng
variable [Inhabited GlobT]
attribute [local irreducible] OpR TL TD TC TS Ak
theorem Apl {w:Nat} (hw:W64 w):(FloatKind.f64.format.order w w != some .eq)=fN w:=by rw [fo_ne hw hw];simp
theorem fo_zg (w:Nat) (hw:W64 w):(FloatKind.f64.format.order w 0 == some .gt)=(!fN w && decide (0<fK w)):=by
 have h1:fN 0=false:=by decide
 have h2:fK 0=0:=by decide
 rw [Bbd hw (by omega),h1,h2]
 simp
theorem dbl {w:Nat} (hw:W64 w) (hn:fN w=false) (h0:fR w≠0):∃ v,abin .add (fl w) (fl w)=some (fl v)∧(FloatKind.f64.format.order v w == some .eq)=decide (fR w=infR):=by
 obtain⟨r,h1,h2,h3,h4⟩:=add_self hw hn
 refine⟨_,show afltop .add .f64 w w=_ by unfold afltop;rw [h1];rfl,?_⟩
 rw [fo_eq (fword_lt h2) hw,fN_word h2,hn]
 simp only [Bool.not_false,Bool.true_and]
 refine decide_eq_decide.2 ?_
 unfold fK
 rw [fS_word h2,fR_word h2]
 cases fS w<;>simp<;>omega
theorem Bcd {w:Nat} (hw:W64 w) (h:fR w=0):w=if fS w then 9223372036854775808 else 0:=by
 unfold fR at h
 unfold W64 at hw
 unfold fS
 split
 ·rename_i c;simp at c;omega
 ·rename_i c;simp at c;omega
theorem AyQ (w:Nat) (hw:W64 w):Ak APg Ajx [fl w] (.int .i64 (kd w:Int)):=by
 have hn:=Apl hw
 obtain⟨hz,he⟩:=fo_z w hw
 have hg:=fo_zg w hw
 unfold kd
 by_cases c0:fN w=true
 ·rw [c0] at hn ⊢
  refine Al (af:=Ach) rfl rfl ?_
  refine tS (tO (tR 1 rfl (tN (tS (tS (tO ?_))))))
  refine tR 3 rfl (tN ?_)
  rw [hn]
  refine AI (t:=true) rfl (fun _=>?_) (fun h=>nomatch h);refine tS (tO (tR 1 rfl (tN ?_)))
  exact tT (AS rfl ⟨_,fzO rfl⟩)
 have c0:fN w=false:=by simpa using c0
 rw [c0] at hn hz he hg ⊢
 by_cases c3:fR w=0
 ·have k:fK w=0:=by unfold fK;rw [c3];cases fS w<;>rfl
  have i0:¬ fR w=infR:=by rw [c3];decide
  rw [k] at hz hg
  have hw0:=Bcd hw c3
  rw [if_neg i0,if_neg i0,if_pos c3,if_pos c3]
  cases c1:fS w
  ·rw [c1] at hw0
   have hw0:w=0:=hw0
   have hq:abin .quo (.flt .f64 4607182418800017408) (fl w)=some (fl 9218868437227405312):=by rw [hw0];kernel_rfl
   refine Al (af:=Ach) rfl rfl ?_
   refine tS (tO (tR 1 rfl (tN (tS (tS (tO ?_))))))
   refine tR 3 rfl (tN ?_)
   rw [hn]
   refine AI (t:=false) rfl (fun h=>nomatch h) (fun _=>?_);refine tK (tS (tS (tO ?_)))
   refine tR 2 rfl (tN ?_)
   rw [show (FloatKind.f64.format.order w 0 == some .lt)=false from hz]
   refine AI (t:=false) rfl (fun h=>nomatch h) (fun _=>?_);refine tK (tS (tS (tO ?_)))
   refine tR 2 rfl (tN ?_)
   rw [show (FloatKind.f64.format.order w 0 == some .gt)=false from hg]
   refine AI (t:=false) rfl (fun h=>nomatch h) (fun _=>?_);refine tK (tS (tS (tO ?_)))
   refine tR 1 rfl ?_
   refine tP (oB (v:=fl 9218868437227405312) rfl rfl hq) rfl rfl rfl rfl ?_
   refine tR 1 rfl (tN ?_);refine AI (t:=false) rfl (fun h=>nomatch h) (fun _=>?_);refine tK (tS ?_)
   refine tO (tR 1 rfl (tN ?_));exact tT (AS rfl ⟨_,fzO rfl⟩)
  ·rw [c1] at hw0
   have hw0:w=9223372036854775808:=hw0
   have hq:abin .quo (.flt .f64 4607182418800017408) (fl w)=some (fl 18442240474082181120):=by rw [hw0];kernel_rfl
   refine Al (af:=Ach) rfl rfl ?_
   refine tS (tO (tR 1 rfl (tN (tS (tS (tO ?_))))))
   refine tR 3 rfl (tN ?_)
   rw [hn]
   refine AI (t:=false) rfl (fun h=>nomatch h) (fun _=>?_);refine tK (tS (tS (tO ?_)))
   refine tR 2 rfl (tN ?_)
   rw [show (FloatKind.f64.format.order w 0 == some .lt)=false from hz]
   refine AI (t:=false) rfl (fun h=>nomatch h) (fun _=>?_);refine tK (tS (tS (tO ?_)))
   refine tR 2 rfl (tN ?_)
   rw [show (FloatKind.f64.format.order w 0 == some .gt)=false from hg]
   refine AI (t:=false) rfl (fun h=>nomatch h) (fun _=>?_);refine tK (tS (tS (tO ?_)))
   refine tR 1 rfl ?_
   refine tP (oB (v:=fl 18442240474082181120) rfl rfl hq) rfl rfl rfl rfl ?_
   refine tR 1 rfl (tN ?_);refine AI (t:=true) rfl (fun _=>?_) (fun h=>nomatch h);refine tS (tO ?_)
   refine tR 1 rfl (tN ?_);exact tT (AS rfl ⟨_,fzO rfl⟩)
 ·obtain⟨v,hd,hq⟩:=dbl hw c0 c3
  rw [if_neg c3,if_neg c3]
  cases c1:fS w
  ·have k:¬ fK w<0∧0<fK w:=by unfold fK;rw [c1];simp;omega
   rw [decide_eq_false k.1] at hz
   rw [decide_eq_true k.2] at hg
   refine Al (af:=Ach) rfl rfl ?_
   refine tS (tO (tR 1 rfl (tN (tS (tS (tO ?_))))))
   refine tR 3 rfl (tN ?_)
   rw [hn]
   refine AI (t:=false) rfl (fun h=>nomatch h) (fun _=>?_);refine tK (tS (tS (tO ?_)))
   refine tR 2 rfl (tN ?_)
   rw [show (FloatKind.f64.format.order w 0 == some .lt)=false from hz]
   refine AI (t:=false) rfl (fun h=>nomatch h) (fun _=>?_);refine tK (tS (tS (tO ?_)))
   refine tR 2 rfl (tN ?_)
   rw [show (FloatKind.f64.format.order w 0 == some .gt)=true from hg]
   refine AI (t:=true) rfl (fun _=>?_) (fun h=>nomatch h);refine tS (tS (tO (tR 2 rfl ?_)))
   refine tP (oB (v:=fl v) rfl rfl hd) rfl rfl rfl rfl ?_
   refine tR 2 rfl (tN ?_)
   rw [hq]
   refine tQ rfl decide_eq_true_iff (fun h=>?_) (fun h=>tK ?_)
   ·rw [if_pos h,if_pos h]
    refine tS (tO (tR 1 rfl (tN ?_)));exact tT (AS rfl ⟨_,fzO rfl⟩)
   ·rw [if_neg h,if_neg h]
    refine tS (tO (tR 1 rfl (tN ?_)));exact tT (AS rfl ⟨_,fzO rfl⟩)
  ·have k:fK w<0:=by unfold fK;rw [c1];simp;omega
   rw [decide_eq_true k] at hz
   refine Al (af:=Ach) rfl rfl ?_
   refine tS (tO (tR 1 rfl (tN (tS (tS (tO ?_))))))
   refine tR 3 rfl (tN ?_)
   rw [hn]
   refine AI (t:=false) rfl (fun h=>nomatch h) (fun _=>?_);refine tK (tS (tS (tO ?_)))
   refine tR 2 rfl (tN ?_)
   rw [show (FloatKind.f64.format.order w 0 == some .lt)=true from hz]
   refine AI (t:=true) rfl (fun _=>?_) (fun h=>nomatch h);refine tS (tS (tO (tR 2 rfl ?_)))
   refine tP (oB (v:=fl v) rfl rfl hd) rfl rfl rfl rfl ?_
   refine tR 2 rfl (tN ?_)
   rw [hq]
   refine tQ rfl decide_eq_true_iff (fun h=>?_) (fun h=>tK ?_)
   ·rw [if_pos h]
    refine tS (tO (tR 1 rfl (tN ?_)));exact tT (AS rfl ⟨_,fzO rfl⟩)
   ·rw [if_neg h]
    refine tS (tO (tR 1 rfl (tN ?_)));exact tT (AS rfl ⟨_,fzO rfl⟩)
theorem rcmp_ok (a b:Nat) (ha:W64 a) (hb:W64 b):Ak APg AmF [fl a,fl b] (.int .i64 (cmpF a b)):=by
 have h1:=AyQ a ha
 have h2:=AyQ b hb
 have hl:=fo_lt ha hb
 have hg:=Bbd ha hb
 rw [AyT]
 rcases Nat.lt_trichotomy (kd a) (kd b) with h | h | h
 ·rw [Anb (by omega),if_pos (by decide)]
  refine Al (af:=AfR) rfl rfl ?_
  refine tS (tO (tR 1 rfl (tN (tS (tO (tR 1 rfl ?_))))))
  refine tC rfl rfl (h1) rfl rfl rfl rfl rfl rfl ?_;refine tR 1 rfl ?_;refine tC rfl rfl (h2) rfl rfl rfl rfl rfl rfl ?_
  refine tR 2 rfl (tN (tS (tS (tO (tR 4 rfl ?_)))))
  rw [show decide ((kd a:Int)<(kd b:Int))=true from decide_eq_true (by omega)]
  refine tR 9 rfl (tN ?_);refine AI (t:=true) rfl (fun _=>?_) (fun h=>nomatch h);refine tS (tO ?_)
  refine tR 1 rfl (tN ?_);exact tT (AS rfl ⟨_,fzO rfl⟩)
 ·rw [ArN (by omega),if_neg (by decide)]
  rw [h]
  rw [h] at h1
  refine Al (af:=AfR) rfl rfl ?_
  refine tS (tO (tR 1 rfl (tN (tS (tO (tR 1 rfl ?_))))))
  refine tC rfl rfl (h1) rfl rfl rfl rfl rfl rfl ?_;refine tR 1 rfl ?_;refine tC rfl rfl (h2) rfl rfl rfl rfl rfl rfl ?_
  refine tR 2 rfl (tN (tS (tS (tO (tR 4 rfl ?_)))))
  rw [show decide ((kd b:Int)<(kd b:Int))=false from decide_eq_false (by omega)]
  refine tR 4 rfl ?_
  rw [show ((kd b:Int) == (kd b:Int))=true from beq_self_eq_true _]
  refine tR 5 rfl (tN ?_)
  by_cases c0:kd b=0
  ·have n1:=(kd0 a).1 (by omega)
   have n2:=(kd0 b).1 c0
   rw [n1] at hl hg
   rw [if_pos c0]
   rw [show (FloatKind.f64.format.order a b == some .lt)=false from hl]
   refine AI (t:=false) rfl (fun h=>nomatch h) (fun _=>?_);refine tK (tS (tS (tO ?_)))
   refine tR 4 rfl ?_
   rw [show decide ((kd b:Int)>(kd b:Int))=false from decide_eq_false (by omega)]
   refine tR 4 rfl (tN ?_)
   rw [show (FloatKind.f64.format.order a b == some .gt)=false from hg]
   refine AI (t:=false) rfl (fun h=>nomatch h) (fun _=>?_);refine tK (tS (tO (tR 1 rfl ?_)))
   refine tN ?_;exact tT (AS rfl ⟨_,fzO rfl⟩)
  ·have n1:fN a=false:=by
    cases g:fN a
    ·rfl
    ·exact absurd ((kd0 a).2 g) (by omega)
   have n2:fN b=false:=by
    cases g:fN b
    ·rfl
    ·exact absurd ((kd0 b).2 g) (by omega)
   rw [n1,n2] at hl hg
   rw [if_neg c0]
   rw [show (FloatKind.f64.format.order a b == some .lt)=decide (fK a<fK b) from hl]
   unfold cmpI
   refine tQ rfl decide_eq_true_iff (fun g=>?_) (fun g=>tK ?_)
   ·rw [if_pos g];(refine tS (tO (tR 1 rfl (tN ?_)));exact tT (AS rfl ⟨_,fzO rfl⟩))
   rw [if_neg g]
   refine tS (tS (tO (tR 4 rfl ?_)))
   rw [show decide ((kd b:Int)>(kd b:Int))=false from decide_eq_false (by omega)]
   refine tR 4 rfl (tN ?_)
   rw [show (FloatKind.f64.format.order a b == some .gt)=decide (fK b<fK a) from hg]
   refine tQ rfl decide_eq_true_iff (fun g=>?_) (fun g=>tK ?_)
   ·rw [if_pos g];(refine tS (tO (tR 1 rfl (tN ?_)));exact tT (AS rfl ⟨_,fzO rfl⟩))
   rw [if_neg g]
   refine tS (tO (tR 1 rfl (tN ?_)));exact tT (AS rfl ⟨_,fzO rfl⟩)
 ·rw [AjT (by omega),if_pos (by decide)]
  refine Al (af:=AfR) rfl rfl ?_
  refine tS (tO (tR 1 rfl (tN (tS (tO (tR 1 rfl ?_))))))
  refine tC rfl rfl (h1) rfl rfl rfl rfl rfl rfl ?_;refine tR 1 rfl ?_;refine tC rfl rfl (h2) rfl rfl rfl rfl rfl rfl ?_
  refine tR 2 rfl (tN (tS (tS (tO (tR 4 rfl ?_)))))
  rw [show decide ((kd a:Int)<(kd b:Int))=false from decide_eq_false (by omega)]
  refine tR 4 rfl ?_
  rw [show ((kd a:Int) == (kd b:Int))=false from by simp;omega]
  refine tR 5 rfl (tN ?_);refine AI (t:=false) rfl (fun h=>nomatch h) (fun _=>?_);refine tK (tS ?_)
  refine tS (tO (tR 4 rfl ?_))
  rw [show decide ((kd a:Int)>(kd b:Int))=true from decide_eq_true (by omega)]
  refine tR 4 rfl (tN ?_);refine AI (t:=true) rfl (fun _=>?_) (fun h=>nomatch h);refine tS (tO ?_)
  refine tR 1 rfl (tN ?_);exact tT (AS rfl ⟨_,fzO rfl⟩)
end Go.Eng.Ga
namespace Go.Eng.Ga
open Go Go.Eng
variable [Inhabited GlobT]
attribute [local irreducible] OpR TL TD TC TS Ak
abbrev u6 (n:Nat):Zv := .int .u64 (n:Int)
abbrev en (E:List Nat):List (List Zv):=E.map fun w=>[fl w]
abbrev eu (C:List Nat):List (List Zv):=C.map fun n=>[u6 n]
@[simp] theorem AmQ (L:List Nat):Ao (en L)=true:=cLLm (fun _=>rfl) _
@[simp] theorem Alt (L:List Nat):Aab (en L)=true:=nLLm (fun _=>rfl) _
@[simp] theorem AmM (L:List Nat):Ao (eu L)=true:=cLLm (fun _=>rfl) _
abbrev gc (E C:List Nat) (n a lo hi:Nat):List Zv:=[.imm (en E),.imm (eu C),u6 n,u6 a,fl lo,fl hi]
abbrev gv (E C:List Nat) (n a lo hi:Nat):Zv := .agg (gc E C n a lo hi)
theorem Apz (x y:Nat) (h:x+y<18446744073709551616):Ak APg Aju [u6 x,u6 y] (u6 (x+y)):=by
 refine Al (af:=AjX) rfl rfl ?_
 refine tS (tO (tR 1 rfl (tN (tS (tS (tO ?_))))))
 refine tR 2 rfl ?_;refine tP (o_subu (a:=18446744073709551615) rfl rfl (by omega) (AaA (by omega))) rfl rfl rfl rfl ?_
 refine tR 1 rfl (tN ?_)
 refine tQ rfl decide_eq_true_iff (fun h=>?_) (fun h=>?_)
 ·exfalso;omega
 ·refine tK (tS (tO (tR 2 rfl ?_)));refine tP (Ait rfl rfl (AaA (by omega))) rfl rfl rfl rfl ?_
  refine tR 1 rfl (tN ?_);exact tT (AS rfl ⟨_,fzO rfl⟩)
theorem nan_ok:Ak APg AbB [] (fl 9221120237041090561):=by
 refine Al (af:=Akk) rfl rfl ?_
 refine tS (tO (tR 1 rfl (tN (tS (tO (tR 2 rfl ?_))))))
 refine tN ?_;exact tT (AS rfl ⟨_,fzO rfl⟩)
theorem total_ok (E C:List Nat) (n a lo hi:Nat):Ak APg Adk [gv E C n a lo hi] (u6 a):=by
 refine Al (af:=Abs) rfl rfl ?_
 refine tS (tO (tR 2 rfl (tN (tS (tO (tR 3 rfl ?_))))))
 refine tN ?_;exact tT (AS rfl ⟨_,fzO rfl⟩)
theorem none_ok (E C:List Nat) (n a lo hi:Nat):Ak APg AdL [gv E C n a lo hi] (u6 n):=by
 refine Al (af:=AbV) rfl rfl ?_
 refine tS (tO (tR 2 rfl (tN (tS (tO (tR 3 rfl ?_))))))
 refine tN ?_;exact tT (AS rfl ⟨_,fzO rfl⟩)
def spanV (a lo hi:Nat):List Zv:=if a=0 then [fl 9221120237041090561,fl 9221120237041090561] else [fl lo,fl hi]
theorem span_ok (E C:List Nat) (n a lo hi:Nat):Ak APg AdK [gv E C n a lo hi] (.tuple (spanV a lo hi)):=by
 have h:=nan_ok
 unfold spanV
 refine Al (af:=AbU) rfl rfl ?_
 refine tS (tO (tR 3 rfl (tN (tS (tS (tO ?_))))))
 refine tR 3 rfl (tN ?_)
 refine tQ rfl beq_iff_eq (fun g=>?_) (fun g=>tK ?_)
 ·rw [if_pos (by omega)]
  refine tS (tO ?_);refine tC rfl rfl (h) rfl rfl rfl rfl rfl rfl ?_;refine tC rfl rfl (h) rfl rfl rfl rfl rfl rfl ?_
  refine tR 2 rfl (tN ?_);exact tT (AS rfl ⟨_,fzO rfl⟩)
 ·rw [if_neg (by omega)]
  refine tS ?_;refine tD0 rfl ?_;refine dR 6 rfl (dN ?_);refine⟨rfl,?_⟩;exact tT (AS rfl ⟨_,fzO rfl⟩)
end Go.Eng.Ga
namespace Go.Eng.Ga
open Go Go.Eng
variable [Inhabited GlobT]
attribute [local irreducible] OpR TL TD TC TS Ak
structure OkE (E:List Nat):Prop where
 w:∀ x∈E,W64 x
 n:∀ x∈E,fN x=false
 s:∀ i j,i<j→j<E.length→fT (E.getD i 0)<fT (E.getD j 0)
theorem OkE.g {E:List Nat} (h:OkE E) (i:Nat):W64 (E.getD i 0):=by
 rw [List.getD_eq_getElem?_getD]
 cases hi:E[i]? with
 | none=>simp
 | some x=>exact h.w x (List.mem_of_getElem? hi)
def stepN (E:List Nat) (x:Nat):Nat:=E.findIdx fun e=>decide (fT x≤fT e)
theorem ApL (E:List Nat) (x:Nat):stepN E x≤E.length:=List.findIdx_le_length
theorem ApM {E:List Nat} {x i:Nat} (hi:i≤E.length) (h1:∀ k,k<i→fT (E.getD k 0)<fT x) (h2:i<E.length→fT x≤fT (E.getD i 0)):stepN E x=i:=by
 unfold stepN
 have hg:∀ k (hk:k<E.length),E.getD k 0=E[k]:=fun k hk=>by simp [List.getD_eq_getElem?_getD,hk]
 rcases Nat.lt_or_ge i E.length with h | h
 ·refine(List.findIdx_eq h).2 ⟨?_,?_⟩
  ·rw [←hg i h];exact decide_eq_true (h2 h)
  ·intro j hj
   rw [←hg j (by omega)];exact decide_eq_false (by have:=h1 j hj;omega)
 ·have:i=E.length:=by omega
  subst this
  refine List.findIdx_eq_length.2 fun e he=>?_
  obtain⟨k,hk,rfl⟩:=List.getElem_of_mem he
  rw [←hg k hk]
  have:=h1 k hk
  exact decide_eq_false (by omega)
theorem shr1 (n:Nat):abin .shr (.int .u64 (n:Int)) (.int .u64 1)=some (.int .u64 ((n / 2:Nat):Int)):=by
 have h:IntKind.bits .u64=64:=rfl
 show Anw .shr .u64 (n:Int) 1=_
 unfold Anw
 rw [if_neg (by decide)]
 simp only [h]
 rw [show ((1:Int).toNat)=1 from rfl,show min 1 64=1 from rfl,Int.fdiv_eq_ediv_of_nonneg _ (by decide)]
 rfl
theorem Ayg {a b:Nat}:decide (cmpF a b<0)=decide (fT a<fT b):=by
 unfold cmpF cmpI
 refine decide_eq_decide.2 ?_
 split
 ·simp;assumption
 ·split<;>simp<;>omega
theorem OkE.m {E:List Nat} (h:OkE E) {i j:Nat} (hij:i≤j) (hj:j<E.length):fT (E.getD i 0)≤fT (E.getD j 0):=by
 rcases Nat.lt_or_ge i j with g | g
 ·exact Int.le_of_lt (h.s i j g hj)
 ·have:i=j:=by omega
  subst this;exact Int.le_refl _
theorem bsf_ok (E:List Nat) (h:OkE E) (hl:E.length<4294967296) (x:Nat) (hx:W64 x) :
 ∃ b,Ak APg Aag [.imm (en E),fl x,.fn (.func Aan) [] []] (.tuple [.int .i64 (stepN E x:Int),.bool b]):=by
 have hc:∀ i,Ak APg Aan [fl (E.getD i 0),fl x] (.int .i64 (cmpF (E.getD i 0) x)):=fun i=>AkR _ _ (h.g i) hx
 have hle:(en E).length=E.length:=List.length_map _
 refine⟨if stepN E x<E.length then cmpF (E.getD (stepN E x) 0) x == 0 else false,?_⟩
 refine Al (af:=Aad) rfl rfl ?_
 refine tS (tO (tR 2 rfl (tN (tS (tO (tR 3 rfl ?_))))))
 refine tN (tS (tO (tR 3 rfl (tN (tS ?_)))))
 refine tB (lST (σ:=Nat × Nat) (fun s=>s.2 - s.1) (fun s=>[(0,.imm (en E)),(1,fl x),(2,.fn (.func Aan) [] []),(6,.int .i64 0),(7,.bool false),(8,.int .i64 ((en E).length:Int)),(9,.int .i64 (s.1:Int)),(10,.int .i64 (s.2:Int))])
  (fun s S=>s.1≤s.2∧s.2≤E.length∧(∀ k,k<s.1→fT (E.getD k 0)<fT x)∧∀ k,s.2≤k→k<E.length→fT x≤fT (E.getD k 0)) (0,(en E).length) (by (repeat' (first | exact wN | refine wC rfl ?_))) ⟨by omega,by omega,fun k hk=>absurd hk (by omega),fun k h1 h2=>by omega⟩ ?_)
 rintro⟨i,j⟩ S ⟨hij,hj,h1,h2⟩
 dsimp only at hij hj h1 h2 ⊢
 refine tS (tS (tO (tR 3 rfl (tN ?_))))
 refine tQ rfl decide_eq_true_iff (fun c=>tK ?_) (fun c=>tX ?_)
 ·have c:i<j:=by omega
  refine tB ?_;refine tS (tO (tR 2 rfl ?_));refine tP (oA rfl rfl (by omega)) rfl rfl rfl rfl ?_
  refine tP (Afv rfl (AaA (by omega))) rfl rfl rfl rfl ?_
  refine tP (oB rfl rfl (shr1 _)) rfl rfl rfl rfl ?_
  refine tP (Afv rfl (AcV (by omega))) rfl rfl rfl rfl ?_;refine tR 1 rfl (tN (tS (tO ?_)))
  refine tR 3 rfl ?_;refine tP (Bl rfl rfl (AQ (d:=0) (by omega)) rfl) rfl rfl rfl rfl ?_;refine tR 2 rfl ?_
  have hm:(i+j) / 2<E.length:=by omega
  have hcm:=hc ((i+j) / 2)
  refine AhR rfl rfl rfl hcm rfl rfl rfl rfl rfl rfl ?_
  refine tR 1 rfl (tN ?_)
  rw [Ayg]
  refine tQ rfl decide_eq_true_iff (fun g=>?_) (fun g=>?_)
  ·refine tO (tR 1 rfl ?_);refine tP (oA (b:=1) rfl rfl (by omega)) rfl rfl rfl rfl ?_;refine tR 1 rfl ?_
   refine tN ?_
   refine⟨((i+j) / 2+1,j),by simp only;omega,by (repeat' (first | exact wN | refine wC rfl ?_)),by simp only;omega,by simp only;omega,?_,h2⟩
   intro k hk
   have:=h.m (i:=k) (j:=(i+j) / 2) (by simp only at hk;omega) hm
   omega
  ·refine tO (tR 2 rfl (tN ?_))
   refine⟨(i,(i+j) / 2),by simp only;omega,by (repeat' (first | exact wN | refine wC rfl ?_)),by simp only;omega,by simp only;omega,h1,?_⟩
   intro k hk hk2
   have:=h.m (i:=(i+j) / 2) (j:=k) hk hk2
   omega
 ·have c:i=j:=by omega
  subst c
  have e:=ApM hj h1 (fun hi=>h2 i (Nat.le_refl _) hi)
  rw [e]
  by_cases hi:i<E.length
  ·have hci:=hc i
   rw [if_pos hi]
   refine tS (tO (tR 5 rfl ?_))
   rw [show decide ((i:Int)<((en E).length:Int))=true from decide_eq_true (by omega)]
   refine tR 3 rfl ?_;refine tP (Bl rfl rfl (AQ (d:=0) (by omega)) rfl) rfl rfl rfl rfl ?_;refine tR 2 rfl ?_
   refine AhR rfl rfl rfl hci rfl rfl rfl rfl rfl rfl ?_
   refine tR 4 rfl (tN ?_);exact tT (AS rfl ⟨_,fzO rfl⟩)
  ·rw [if_neg hi]
   refine tS (tO (tR 5 rfl ?_))
   rw [show decide ((i:Int)<((en E).length:Int))=false from decide_eq_false (by omega)]
   refine tR 6 rfl ?_
   refine AlG rfl rfl ?_
   refine tR 4 rfl (tN ?_);exact tT (AS rfl ⟨_,fzO rfl⟩)
end Go.Eng.Ga
namespace Go.Eng.Ga
open Go Go.Eng
variable [Inhabited GlobT]
attribute [local irreducible] OpR TL TD TC TS Ak
theorem AvI (E C:List Nat) (n a lo hi:Nat) (h:OkE E) (hl:E.length<4294967296) (x:Nat) (hx:W64 x):Ak APg AdJ [gv E C n a lo hi,fl x] (.int .i64 (stepN E x:Int)):=by
 obtain⟨b,hb⟩:=bsf_ok E h hl x hx
 refine Al (af:=AbT) rfl rfl ?_
 refine tS (tO (tR 2 rfl (tN (tS (tO (tR 3 rfl ?_))))))
 refine tC rfl (by simp [Zv.closed,Aj,Ao,cLm,cLLm]) (hb) (by simp [Zv.noref,Zv.flat,norefL,Aab,nLm,nLLm]) rfl rfl rfl rfl rfl ?_
 refine tR 5 rfl (tN (tS (tO (tR 2 rfl (tN ?_)))))
 exact tT (AS rfl ⟨_,fzO rfl⟩)
def minF (a b:Nat):Nat:=if fT b<fT a then b else a
def maxF (a b:Nat):Nat:=if fT a<fT b then b else a
theorem Ayf {a b:Nat}:decide (cmpF a b>0)=decide (fT b<fT a):=by
 unfold cmpF cmpI
 refine decide_eq_decide.2 ?_
 split
 ·simp;omega
 ·split<;>simp<;>omega
theorem BaT (a b:Nat) (ha:W64 a) (hb:W64 b):Ak APg AaC [.imm [[fl a],[fl b]],.fn (.func Aan) [] []] (fl (minF a b)):=by
 have hc:=AkR b a hb ha
 refine Al (af:=Aah) rfl rfl ?_
 refine tS (tO (tR 1 rfl (tN (tS (tS (tO ?_))))))
 refine tR 3 rfl (tN ?_);refine AI (t:=false) rfl (fun h=>nomatch h) (fun _=>?_);refine tK (tS ?_)
 refine tO (tR 4 rfl (tN (tS (tS (tO (tR 1 rfl ?_))))))
 refine tN ?_
 refine tB (Aal ?_)
 refine tS (tS (tO (tR 4 rfl (tN ?_))))
 refine AI (t:=true) rfl (fun _=>?_) (fun h=>nomatch h);refine tK (tS ?_);refine tB ?_;refine tS ?_
 refine tO (tR 6 rfl ?_)
 refine AhR rfl rfl rfl hc rfl rfl rfl rfl rfl rfl ?_
 refine tR 1 rfl (tN ?_)
 rw [Ayg]
 unfold minF
 refine tQ rfl decide_eq_true_iff (fun g=>?_) (fun g=>tK ?_)
 ·rw [if_pos g]
  refine tO (tR 5 rfl (tN (tO (tR 1 rfl ?_))))
  refine tP (oB (v := .int .i64 2) rfl rfl rfl) rfl rfl rfl rfl ?_;refine tR 1 rfl (tN ?_)
  refine Aal ?_
  refine tS (tS (tO (tR 4 rfl (tN ?_))))
  refine AI (t:=false) rfl (fun h=>nomatch h) (fun _=>?_);refine tX ?_;refine tS (tO (tR 2 rfl ?_))
  refine tN ?_;exact tT (AS rfl ⟨_,fzO rfl⟩)
 ·rw [if_neg g]
  refine tO (tR 1 rfl ?_);refine tP (oB (v := .int .i64 2) rfl rfl rfl) rfl rfl rfl rfl ?_;refine tR 1 rfl ?_
  refine tN ?_
  refine Aal ?_
  refine tS (tS (tO (tR 4 rfl (tN ?_))))
  refine AI (t:=false) rfl (fun h=>nomatch h) (fun _=>?_);refine tX ?_;refine tS (tO (tR 2 rfl ?_))
  refine tN ?_;exact tT (AS rfl ⟨_,fzO rfl⟩)
theorem BaU (a b:Nat) (ha:W64 a) (hb:W64 b):Ak APg AaD [.imm [[fl a],[fl b]],.fn (.func Aan) [] []] (fl (maxF a b)):=by
 have hc:=AkR b a hb ha
 refine Al (af:=Aai) rfl rfl ?_
 refine tS (tO (tR 1 rfl (tN (tS (tS (tO ?_))))))
 refine tR 3 rfl (tN ?_);refine AI (t:=false) rfl (fun h=>nomatch h) (fun _=>?_);refine tK (tS ?_)
 refine tO (tR 4 rfl (tN (tS (tS (tO (tR 1 rfl ?_))))))
 refine tN ?_
 refine tB (Aal ?_)
 refine tS (tS (tO (tR 4 rfl (tN ?_))))
 refine AI (t:=true) rfl (fun _=>?_) (fun h=>nomatch h);refine tK (tS ?_);refine tB ?_;refine tS ?_
 refine tO (tR 6 rfl ?_)
 refine AhR rfl rfl rfl hc rfl rfl rfl rfl rfl rfl ?_
 refine tR 1 rfl (tN ?_)
 rw [Ayf]
 unfold maxF
 refine tQ rfl decide_eq_true_iff (fun g=>?_) (fun g=>tK ?_)
 ·rw [if_pos g]
  refine tO (tR 5 rfl (tN (tO (tR 1 rfl ?_))))
  refine tP (oB (v := .int .i64 2) rfl rfl rfl) rfl rfl rfl rfl ?_;refine tR 1 rfl (tN ?_)
  refine Aal ?_
  refine tS (tS (tO (tR 4 rfl (tN ?_))))
  refine AI (t:=false) rfl (fun h=>nomatch h) (fun _=>?_);refine tX ?_;refine tS (tO (tR 2 rfl ?_))
  refine tN ?_;exact tT (AS rfl ⟨_,fzO rfl⟩)
 ·rw [if_neg g]
  refine tO (tR 1 rfl ?_);refine tP (oB (v := .int .i64 2) rfl rfl rfl) rfl rfl rfl rfl ?_;refine tR 1 rfl ?_
  refine tN ?_
  refine Aal ?_
  refine tS (tS (tO (tR 4 rfl (tN ?_))))
  refine AI (t:=false) rfl (fun h=>nomatch h) (fun _=>?_);refine tX ?_;refine tS (tO (tR 2 rfl ?_))
  refine tN ?_;exact tT (AS rfl ⟨_,fzO rfl⟩)
theorem least_ok (a b:Nat) (ha:W64 a) (hb:W64 b):Ak APg AkK [.imm [[fl a],[fl b]]] (fl (minF a b)):=by
 have h:=BaT a b ha hb
 refine Al (af:=AfN) rfl rfl ?_
 refine tS (tO (tR 1 rfl (tN (tS (tS (tO ?_))))))
 refine tR 3 rfl (tN ?_);refine AI (t:=false) rfl (fun h=>nomatch h) (fun _=>?_);refine tK (tS ?_)
 refine tO (tR 1 rfl ?_);refine tC rfl rfl (h) rfl rfl rfl rfl rfl rfl ?_;refine tR 1 rfl (tN ?_)
 exact tT (AS rfl ⟨_,fzO rfl⟩)
theorem most_ok (a b:Nat) (ha:W64 a) (hb:W64 b):Ak APg AmB [.imm [[fl a],[fl b]]] (fl (maxF a b)):=by
 have h:=BaU a b ha hb
 refine Al (af:=AhA) rfl rfl ?_
 refine tS (tO (tR 1 rfl (tN (tS (tS (tO ?_))))))
 refine tR 3 rfl (tN ?_);refine AI (t:=false) rfl (fun h=>nomatch h) (fun _=>?_);refine tK (tS ?_)
 refine tO (tR 1 rfl ?_);refine tC rfl rfl (h) rfl rfl rfl rfl rfl rfl ?_;refine tR 1 rfl (tN ?_)
 exact tT (AS rfl ⟨_,fzO rfl⟩)
def fillC (E C:List Nat):List Nat:=C++List.replicate (E.length+1 - C.length) 0
theorem AwJ (C:List Nat):(((eu C).take C.length).all fun r=>r.all An)=true:=by
 rw [List.all_eq_true]
 intro r hr
 obtain⟨n,-,rfl⟩:=List.mem_map.1 (List.mem_of_mem_take hr)
 rfl
theorem rows_eu (C:List Nat):Bq 1 (.imm (eu C)) = .ok (eu C):=by cases C<;>rfl
theorem AlH {N:Nat} {d:Option Nat} {args:List Ag} {g:Option (Nat × Bool)} {un:List Nat} {l:List Ae} {m:FM} {S:Ab} {K:FM→Ab→Prop} {E C:List Nat} {n a lo hi:Nat}
 (hE:E.length<4294967296) (hC:C.length≤E.length+1)
 (hd:(d.all fun d=>d<N)=true) (hg:gd m g=some true) (ha:los m args=some [gv E C n a lo hi])
 (h:TL APg N l (putM m d (.view (S.length+1) 0 (E.length+1) true)) (S++[some ⟨6,[gc E C n a lo hi]⟩]++[some ⟨1,eu (fillC E C)⟩]) K) :
 TL APg N (⟨d,.call (.c (.fn (.func AaE) [] [])) args,g,un⟩::l) m S K:=by
 refine tl_share (af:=Abf) hd hg ha rfl rfl rfl rfl rfl rfl rfl rfl ?_
 have hle:(en E).length=E.length:=List.length_map _
 refine tS (tO ?_);refine AH (o_box rfl rfl rfl rfl) rfl rfl rfl rfl ?_;refine tR 1 rfl (tN (tS ?_))
 refine tO (tR 1 rfl ?_);refine tP (BK rfl (Ax AW) rfl (Nat.le_of_ble_eq_true rfl) rfl) rfl rfl rfl rfl ?_
 refine tR 1 rfl ?_;refine tP (oA (b:=1) rfl rfl (by omega)) rfl rfl rfl rfl ?_
 refine AH (Azf rfl rfl (by omega) (by omega)) rfl rfl rfl rfl ?_;refine tR 1 rfl (tN (tS (tO ?_)))
 refine tR 2 rfl ?_
 rw [BN,BN]
 have h1:(S++[some ⟨6,[gc E C n a lo hi]⟩]++[some ⟨1,List.replicate ((en E).length+1) [u6 0]⟩])[S.length]?=some (some ⟨6,[gc E C n a lo hi]⟩):=AU AW
 refine tP (BK (v := .imm (eu C)) rfl h1 rfl (Nat.le_of_ble_eq_true rfl) rfl) rfl rfl rfl rfl ?_
 refine tP (Awh (rows:=List.replicate ((en E).length+1) [u6 0]) (ys:=eu C) (n:=C.length) rfl rfl (rows_eu C) AW (by simp;omega) (by simp) (AwJ C)) rfl rfl rfl rfl ?_
 rw [BN]
 have e:(List.replicate ((en E).length+1) [u6 0]).take 0++(eu C).take C.length++(List.replicate ((en E).length+1) [u6 0]).drop (0+C.length)=eu (fillC E C):=by
  simp [fillC,eu,List.take_of_length_le]
 rw [e]
 refine tN (tS (tO (tR 2 rfl (tN ?_))))
 refine tT ⟨.inr rfl,_,rfl,?_⟩
 have e2:(S++[some (⟨6,[Bn (gv E C n a lo hi)]⟩:ABlock)]).length=S.length+1:=List.length_append
 rw [e2,hle]
 exact h
theorem counts_ok (E C:List Nat) (n a lo hi:Nat) (hE:E.length<4294967296) (hC:C.length≤E.length+1):Ak APg AcO [gv E C n a lo hi] (.imm (eu (fillC E C))):=by
 have hl:(fillC E C).length=E.length+1:=by simp [fillC];omega
 refine Al (af:=Abg) rfl rfl ?_
 refine tS (tO (tR 2 rfl (tN (tS (tO (tR 1 rfl ?_))))))
 refine AlH hE hC rfl rfl rfl ?_
 refine tR 1 rfl (tN ?_)
 exact tT (AsA rfl AW (by simp [hl]) (by rw [List.drop_zero];exact List.take_of_length_le (by simp [hl])) (AmM _))
end Go.Eng.Ga
namespace Go.Eng.Ga
open Go Go.Eng
variable [Inhabited GlobT]
attribute [local irreducible] OpR TL TD TC TS Ak
def bump (C:List Nat) (i:Nat):List Nat:=C.set i (C.getD i 0+1)
structure OkG (E C:List Nat) (n a lo hi:Nat):Prop where
 oe:OkE E
 el:E.length<4294967296
 oc:C=[]∨C.length=E.length+1
 on:n<4294967296
 oa:a<4294967296
 ca:∀ x∈C,x≤a
 ol:W64 lo
 oh:W64 hi
theorem addN_ok (E C:List Nat) (n a lo hi:Nat) (h:OkG E C n a lo hi) (x:Nat) (hx:W64 x) (hn:fN x=true):Ak APg Abd [gv E C n a lo hi,fl x] (gv E C (n+1) a lo hi):=by
 have h1:=Aix x hx
 rw [hn] at h1
 have h2:=Apz n 1 (by have:=h.on;omega)
 refine Al (af:=Aaj) rfl rfl ?_
 refine tS (tO (tR 2 rfl (tN (tS (tS (tO ?_))))))
 refine tR 1 rfl ?_;refine tC rfl rfl (h1) rfl rfl rfl rfl rfl rfl ?_;refine tN ?_
 refine AI (t:=true) rfl (fun _=>?_) (fun h=>nomatch h);refine tS (tO (tR 2 rfl ?_))
 refine tC rfl rfl (h2) rfl rfl rfl rfl rfl rfl ?_;refine tR 2 rfl (tN (tS (tO ?_)))
 refine tR 2 rfl (tN ?_);exact tT (AS rfl ⟨_,fzO (by simp [one,Bn,Zv.closed,Aj,cLm,cLLm])⟩)
theorem AtD {S:Ab} {E C:List Nat} {n a lo hi b len:Nat} {full:Bool} (h1:S[b]?=some (some ⟨1,eu C⟩)) (hl:len=C.length) :
 (frz (5+1) (.agg [.imm (en E),.view b 0 len full,u6 n,u6 a,fl lo,fl hi])).run S=some (gv E C n a lo hi,[b]):=by
 have hc:Aj [.imm (en E),.view b 0 len full,u6 n,u6 a,fl lo,fl hi]=false:=by simp [Aj,Zv.closed]
 refine Azz (i:=[b]) hc (Adh (i:=[]) (j:=[b]) (fzO (AmQ E)) ?_)
 exact Adh (i:=[b]) (j:=[]) (Aiz (blk:=⟨1,eu C⟩) h1 (by simpa using hl) (AmM C)) (Adi rfl)
theorem AvE (E C:List Nat) (n a lo hi:Nat) (h:OkG E C n a lo hi) (x:Nat) (hx:W64 x) :
 TC APg (max Aaj.nargs Aaj.N) Adm [(1,fl x),(2,.ptr 0 0 0),(4,.ptr 1 0 0)] [some ⟨6,[gc E C n a lo hi]⟩,some ⟨6,[[.nils,.nils,.int .u64 0,.int .u64 0,.flt .f64 0,.flt .f64 0]]⟩]
  fun ex m S=>(ex = .normal∨ex = .ret)∧∃ vs ids,Abx m S Aaj.res=some vs∧(frz Az (one vs)).run S=some (gv E (bump (fillC E C) (stepN E x)) n (a+1) (minF lo x) (maxF hi x),ids):=by
 have h2:=Apz a 1 (by have:=h.oa;omega)
 have h3:=least_ok lo x h.ol hx
 have h4:=most_ok hi x h.oh hx
 have hC:C.length≤E.length+1:=by rcases h.oc with c | c<;>simp [c]
 refine tS ?_;refine tD0 rfl ?_;refine dR 3 rfl ?_;refine dP rfl rfl (AZ rfl rfl rfl) ?_
 refine ApI rfl rfl h3 rfl rfl rfl rfl rfl ?_
 refine dR 3 rfl ?_;refine dP rfl rfl (AZ rfl rfl rfl) ?_
 refine ApI rfl rfl h4 rfl rfl rfl rfl rfl ?_
 refine dR 4 rfl (dN ?_);refine⟨rfl,?_⟩;refine tS (tO (tR 2 rfl ?_))
 refine tC rfl rfl (h2) rfl rfl rfl rfl rfl rfl ?_;refine tR 2 rfl (tN (tS (tO ?_)))
 refine tR 1 rfl ?_
 refine AlH (E:=E) (C:=C) (n:=n) (a:=a+1) (lo:=minF lo x) (hi:=maxF hi x) h.el hC rfl rfl rfl ?_
 refine tR 2 rfl (tN (tS ?_));refine tD0 rfl ?_;refine dR 4 rfl ?_
 have hst:=AvI E (fillC E C) n (a+1) (minF lo x) (maxF hi x) h.oe h.el x hx
 have hfl:(fillC E C).length=E.length+1:=by simp [fillC];omega
 have hzz:∀ S:Ab,S[3]?=some (some ⟨1,eu (fillC E C)⟩)→(RM.mapL (frz Az) [.agg [.imm (en E),.view 3 0 (E.length+1) true,u6 n,u6 (a+1),fl (minF lo x),fl (maxF hi x)],fl x]).run S=some ([gv E (fillC E C) n (a+1) (minF lo x) (maxF hi x),fl x],[3]):=fun S hS =>
  Adh (i:=[3]) (j:=[]) (AtD hS (by rw [hfl])) (Adi rfl)
 refine ApI rfl (hzz _ rfl) hst (Bool.or_true _) rfl rfl rfl rfl ?_
 have hsl:stepN E x<(fillC E C).length:=by have:=ApL E x;omega
 refine dP rfl rfl (AE rfl rfl (by omega) rfl rfl) ?_
 refine dP rfl rfl (AbO 0 rfl rfl hsl rfl) ?_
 have hcb:(fillC E C).getD (stepN E x) 0<4294967296:=by
  unfold fillC
  rcases Nat.lt_or_ge (stepN E x) C.length with g | g
  ·rw [Atg g,List.getD_eq_getElem?_getD,List.getElem?_eq_getElem g]
   have:=h.ca _ (List.getElem_mem g)
   have:=h.oa
   simp only [Option.getD_some];omega
  ·rw [List.getD_eq_getElem?_getD,List.getElem?_append_right g,List.getElem?_replicate]
   split<;>simp
 refine dP rfl rfl (Ait (b:=1) rfl rfl (AaA (by omega))) ?_;refine dP rfl rfl (AE rfl rfl (by omega) rfl rfl) ?_
 refine dP rfl rfl (Agg 0 rfl rfl rfl (by omega) ⟨_,rfl⟩ rfl rfl) ?_;refine dN ?_;refine⟨rfl,?_⟩;refine tS (tO ?_)
 refine tR 2 rfl (tN ?_)
 refine tT (AS (vs:=[_]) rfl ⟨_,AtD (C:=bump (fillC E C) (stepN E x)) rfl ?_⟩)
 rw [bump,List.length_set,hfl]
theorem addX_ok (E C:List Nat) (n a lo hi:Nat) (h:OkG E C n a lo hi) (x:Nat) (hx:W64 x) (hn:fN x=false) :
 Ak APg Abd [gv E C n a lo hi,fl x] (gv E (bump (fillC E C) (stepN E x)) n (a+1) (minF (if a=0 then x else lo) x) (maxF (if a=0 then x else hi) x)):=by
 have h1:=Aix x hx
 rw [hn] at h1
 refine Al (af:=Aaj) rfl rfl ?_
 refine tS (tO (tR 2 rfl (tN (tS (tS (tO ?_))))))
 refine tR 1 rfl ?_;refine tC rfl rfl (h1) rfl rfl rfl rfl rfl rfl ?_;refine tN ?_
 refine AI (t:=false) rfl (fun h=>nomatch h) (fun _=>?_);refine tK (tS (tS (tO ?_)))
 refine tR 3 rfl (tN ?_)
 refine tQ rfl beq_iff_eq (fun g=>?_) (fun g=>tK ?_)
 ·have g:a=0:=by omega
  rw [if_pos g,if_pos g]
  refine tO (tR 6 rfl (tN ?_))
  refine TC.weaken ?_ (AvE E C n a x x ⟨h.oe,h.el,h.oc,h.on,h.oa,h.ca,hx,hx⟩ x hx)
  (repeat' (first | exact wN | refine wC rfl ?_))
 ·have g:¬ a=0:=by omega
  rw [if_neg g,if_neg g]
  refine TC.weaken ?_ (AvE E C n a lo hi h x hx)
  (repeat' (first | exact wN | refine wC rfl ?_))
end Go.Eng.Ga
namespace Go.Eng.Ga
open Go Go.Eng
variable [Inhabited GlobT]
attribute [local irreducible] OpR TL TD TC TS Ak
def bad1 (E:List Nat) (i:Nat):Bool:=fN (E.getD i 0) || (decide (0<i) && decide (fT (E.getD i 0)≤fT (E.getD (i - 1) 0)))
def badE (E:List Nat):Bool:=(List.range E.length).any (bad1 E)
def errN (E:List Nat):Nat:=if 32<E.length then 6 else if badE E then 21 else 0
theorem Aks {E:List Nat} {i:Nat} (hi:i<E.length) (h:bad1 E i=true):badE E=true:=List.any_eq_true.2 ⟨i,List.mem_range.2 hi,h⟩
theorem badE_no {E:List Nat} (h:∀ i,i<E.length→bad1 E i=false):badE E=false:=by
 unfold badE
 rw [List.any_eq_false]
 intro i hi
 rw [h i (List.mem_range.1 hi)];simp
theorem cmp_ge {a b:Nat}:decide (cmpF a b≥0)=decide (fT b≤fT a):=by
 unfold cmpF cmpI
 refine decide_eq_decide.2 ?_
 split
 ·simp;omega
 ·split<;>simp<;>omega
theorem errN_ok {E:List Nat} (hw:∀ x∈E,W64 x) (h:errN E=0):OkE E∧E.length≤32:=by
 unfold errN at h
 split at h
 ·cases h
 ·split at h
  ·cases h
  ·rename_i h1 h2
   have hb:∀ i,i<E.length→bad1 E i=false:=fun i hi=>by
    cases hc:bad1 E i
    ·rfl
    ·exact absurd (Aks hi hc) h2
   refine⟨⟨hw,fun x hx=>?_,?_⟩,by omega⟩
   ·obtain⟨i,hi,rfl⟩:=List.getElem_of_mem hx
    have:=hb i hi
    unfold bad1 at this
    rw [Bool.or_eq_false_iff] at this
    rw [←this.1,List.getD_eq_getElem?_getD,List.getElem?_eq_getElem hi];rfl
   ·have step:∀ j,j+1<E.length→fT (E.getD j 0)<fT (E.getD (j+1) 0):=fun j hj=>by
     have:=hb (j+1) hj
     unfold bad1 at this
     rw [Bool.or_eq_false_iff] at this
     have:=this.2
     simp at this
     simpa using this
    intro i j hij
    induction j with
    | zero=>omega
    | succ j ih =>
      intro hj
      rcases Nat.lt_or_ge i j with g | g
      ·exact Int.lt_trans (ih g (by omega)) (step j hj)
      ·have:i=j:=by omega
       subst this
       exact step i hj
theorem AdR {E:List Nat} (hw:∀ x∈E,W64 x) (i:Nat):W64 (E.getD i 0):=by
 rw [List.getD_eq_getElem?_getD]
 cases hi:E[i]? with
 | none=>simp
 | some x=>exact hw x (List.mem_of_getElem? hi)
theorem rNew_ok (E:List Nat) (hw:∀ x∈E,W64 x) (hl:E.length<4294967296):Ak APg AtL [.imm (en E)] (.int .i64 (errN E:Int)):=by
 have hle:(en E).length=E.length:=List.length_map _
 unfold errN
 refine Al (af:=Ank) rfl rfl ?_
 refine tS (tO (tR 1 rfl (tN (tS (tS (tO ?_))))))
 refine tR 3 rfl (tN ?_)
 refine tQ rfl decide_eq_true_iff (fun c=>?_) (fun c=>tK ?_)
 ·rw [if_pos (by omega)]
  refine tS (tO (tR 1 rfl (tN ?_)));exact tT (AS rfl ⟨_,fzO rfl⟩)
 rw [if_neg (by omega)]
 refine tS (tS (tO (tR 3 rfl (tN ?_))))
 refine tB (lST (σ:=Nat) (fun i=>E.length - i) (fun i=>[(0,.imm (en E)),(8,.imm (en E)),(9,.int .i64 ((en E).length:Int)),(10,.int .i64 (i:Int))])
  (fun i S=>i≤E.length∧S=[]∧∀ j,j<i→bad1 E j=false) 0 (by (repeat' (first | exact wN | refine wC rfl ?_))) ⟨by omega,rfl,fun j hj=>absurd hj (by omega)⟩ ?_)
 rintro i S ⟨hi,rfl,hb⟩
 refine tS (tO (tR 1 rfl (tN (tS ?_))))
 refine tQ rfl decide_eq_true_iff (fun c=>tK ?_) (fun c=>tX ?_)
 ·have hi':i<E.length:=by omega
  have hne:=Apl (AdR hw i)
  refine tS ?_;refine tB ?_;refine tS (tO (tR 1 rfl ?_))
  refine tP (Bl rfl rfl (AQ (d:=0) (by omega)) rfl) rfl rfl rfl rfl ?_;refine tR 3 rfl (tN (tS ?_))
  refine tO (tR 4 rfl ?_)
  rw [hne]
  cases hn:fN (E.getD i 0)
  ·by_cases h0:i=0
   ·subst h0
    have hz:bad1 E 0=false:=by unfold bad1;rw [hn];rfl
    refine tR 5 rfl ?_
    refine AlG rfl rfl ?_
    refine tR 7 rfl (tN ?_);refine AI (t:=false) rfl (fun h=>nomatch h) (fun _=>?_);refine tK (tO ?_)
    refine tP (oB (v := .int .i64 1) rfl rfl rfl) rfl rfl rfl rfl ?_;refine tR 1 rfl (tN ?_)
    refine⟨1,by omega,by (repeat' (first | exact wN | refine wC rfl ?_)),by omega,rfl,fun j hj=>?_⟩
    have:j=0:=by omega
    subst this;exact hz
   ·have hc:=rcmp_ok (E.getD (i - 1) 0) (E.getD i 0) (AdR hw _) (AdR hw _)
    have him:i - 1<E.length:=by omega
    refine tR 3 rfl ?_
    rw [show decide ((i:Int)>0)=true from decide_eq_true (by omega)]
    refine tR 2 rfl ?_;refine tP (AaH (b:=1) rfl rfl (by omega) (by omega)) rfl rfl rfl rfl ?_
    refine tP (Bl rfl rfl (AQ (d:=0) (by omega)) rfl) rfl rfl rfl rfl ?_;refine tR 2 rfl ?_
    refine tC rfl rfl (hc) rfl rfl rfl rfl rfl rfl ?_;refine tR 3 rfl (tN ?_)
    rw [cmp_ge]
    refine tQ rfl decide_eq_true_iff (fun g=>?_) (fun g=>tK ?_)
    ·have hbd:badE E=true:=Aks hi' (by unfold bad1;rw [hn,decide_eq_true (by omega),decide_eq_true g];rfl)
     rw [hbd]
     refine tS (tO (tR 1 rfl (tN ?_)));exact tT (AS rfl ⟨_,fzO rfl⟩)
    ·refine tO ?_;refine tP (oA (b:=1) rfl rfl (by omega)) rfl rfl rfl rfl ?_;refine tR 1 rfl (tN ?_)
     refine⟨i+1,by omega,by (repeat' (first | exact wN | refine wC rfl ?_)),by omega,rfl,fun j hj=>?_⟩
     rcases Nat.lt_or_ge j i with k | k
     ·exact hb j k
     ·have:j=i:=by omega
      subst this
      unfold bad1
      rw [hn,decide_eq_false g];simp
  ·have hbd:badE E=true:=Aks hi' (by unfold bad1;rw [hn];rfl)
   rw [hbd]
   refine tR 5 rfl ?_
   refine AlG rfl rfl ?_
   refine tR 7 rfl (tN ?_);refine AI (t:=true) rfl (fun _=>?_) (fun h=>nomatch h);refine tS (tO ?_)
   refine tR 1 rfl (tN ?_);exact tT (AS rfl ⟨_,fzO rfl⟩)
 ·have hbd:badE E=false:=badE_no fun j hj=>hb j (by omega)
  rw [hbd]
  refine tS (tO (tR 1 rfl (tN ?_)));exact tT (AS rfl ⟨_,fzO rfl⟩)
end Go.Eng.Ga
namespace Go.Eng.Ga
open Go Go.Eng
variable [Inhabited GlobT]
attribute [local irreducible] OpR TL TD TC TS Ak
theorem Apv:AaV APg (AJ APg 20) Aae .nils=true:=by kernel_rfl
theorem Ang:AaV APg (AJ APg 20) Aae .enil=true:=by kernel_rfl
theorem Apu (x:Nat) (l:List Nat) (hl:l.length≤1000000):∃ v S1,CallSR APg Aae [.imm (en (x::l))] [] v S1∧∃ j,v = .view j 0 (en (x::l)).length false∧S1[j]?=some (some ⟨1,en (x::l)⟩):=by
 refine callSR_of (af:=Aak) rfl rfl ?_
 refine tS (tO (tR 1 rfl (tN (tS (tS (tO ?_))))))
 refine tR 2 rfl (tN ?_);refine AI (t:=false) rfl (fun h=>nomatch h) (fun _=>?_);refine tK (tS ?_)
 refine tO ?_;refine tP (AZ rfl rfl rfl) rfl rfl rfl rfl ?_;refine tR 1 rfl ?_
 refine AH (AsQ rfl rfl (rows:=en (x::l)) rfl (by simp) (by simp;omega) rfl) rfl rfl rfl rfl ?_
 refine tR 1 rfl (tN ?_)
 refine tT ⟨.inr rfl,_,rfl,0,?_,?_⟩
 ·simp [one]
 ·simp
theorem nNew_ok (E:List Nat) (hw:∀ x∈E,W64 x) (hl:E.length<4294967296) (he:errN E=0):Ak APg Adj [.imm (en E)] (.tuple [gv E [] 0 0 0 0,.int .i64 0]):=by
 have hle:(en E).length=E.length:=List.length_map _
 have hok:=errN_ok hw he
 have hbe:∀ i,i<E.length→bad1 E i=false:=fun i hi=>by
  cases hc:bad1 E i
  ·rfl
  ·have:=Aks hi hc
   unfold errN at he
   rw [if_neg (by omega),if_pos this] at he
   cases he
 refine Al (af:=AeQ) rfl rfl ?_
 refine tS (tO (tR 2 rfl (tN (tS (tS (tO ?_))))))
 refine tR 3 rfl (tN ?_)
 refine tQ rfl decide_eq_true_iff (fun c=>?_) (fun c=>tK ?_)
 ·exfalso;omega
 refine tS (tS (tO (tR 3 rfl (tN ?_))))
 refine tB (lST (σ:=Nat) (fun i=>E.length - i) (fun i=>[(0,.imm (en E)),(2,.ptr 0 0 0),(10,.imm (en E)),(11,.int .i64 ((en E).length:Int)),(12,.int .i64 (i:Int))])
  (fun i S=>i≤E.length∧S=[some ⟨6,[[.nils,.nils,.int .u64 0,.int .u64 0,.flt .f64 0,.flt .f64 0]]⟩]) 0 (by (repeat' (first | exact wN | refine wC rfl ?_))) ⟨by omega,rfl⟩ ?_)
 rintro i S ⟨hi,rfl⟩
 refine tS (tO (tR 1 rfl (tN (tS ?_))))
 refine tQ rfl decide_eq_true_iff (fun c=>tK ?_) (fun c=>tX ?_)
 ·have hi':i<E.length:=by omega
  have hne:=Aix _ (AdR hw i)
  cases hn:fN (E.getD i 0)
  ·rw [hn] at hne
   by_cases h0:i=0
   ·subst h0
    refine tS ?_;refine tB ?_;refine tS (tO (tR 1 rfl ?_))
    refine tP (Bl rfl rfl (AQ (d:=0) (by omega)) rfl) rfl rfl rfl rfl ?_;refine tR 3 rfl (tN (tS ?_))
    refine tO (tR 1 rfl ?_);refine tC rfl rfl (hne) rfl rfl rfl rfl rfl rfl ?_;refine tR 6 rfl ?_
    refine AlG rfl rfl ?_
    refine tR 7 rfl (tN ?_);refine AI (t:=false) rfl (fun h=>nomatch h) (fun _=>?_);refine tK (tO ?_)
    refine tP (oB (v := .int .i64 1) rfl rfl rfl) rfl rfl rfl rfl ?_;refine tR 1 rfl (tN ?_)
    exact⟨1,by omega,by (repeat' (first | exact wN | refine wC rfl ?_)),by omega,rfl⟩
   ·have hc:=AkR (E.getD (i - 1) 0) (E.getD i 0) (AdR hw _) (AdR hw _)
    have him:i - 1<E.length:=by omega
    refine tS ?_;refine tB ?_;refine tS (tO (tR 1 rfl ?_))
    refine tP (Bl rfl rfl (AQ (d:=0) (by omega)) rfl) rfl rfl rfl rfl ?_;refine tR 3 rfl (tN (tS ?_))
    refine tO (tR 1 rfl ?_);refine tC rfl rfl (hne) rfl rfl rfl rfl rfl rfl ?_;refine tR 4 rfl ?_
    rw [show decide ((i:Int)>0)=true from decide_eq_true (by omega)]
    refine tR 2 rfl ?_;refine tP (AaH (b:=1) rfl rfl (by omega) (by omega)) rfl rfl rfl rfl ?_
    refine tP (Bl rfl rfl (AQ (d:=0) (by omega)) rfl) rfl rfl rfl rfl ?_;refine tR 2 rfl ?_
    refine tC rfl rfl (hc) rfl rfl rfl rfl rfl rfl ?_;refine tR 3 rfl (tN ?_)
    rw [cmp_ge]
    refine tQ rfl decide_eq_true_iff (fun g=>?_) (fun g=>tK ?_)
    ·have hbd:=hbe i hi'
     unfold bad1 at hbd
     rw [hn,decide_eq_true (by omega),decide_eq_true g] at hbd
     cases hbd
    ·refine tO ?_;refine tP (oA (b:=1) rfl rfl (by omega)) rfl rfl rfl rfl ?_;refine tR 1 rfl (tN ?_)
     exact⟨i+1,by omega,by (repeat' (first | exact wN | refine wC rfl ?_)),by omega,rfl⟩
  ·have hbd:=hbe i hi'
   unfold bad1 at hbd
   rw [hn] at hbd
   cases hbd
 ·refine tS (tO (tR 1 rfl ?_))
  cases E with
  | nil =>
    refine AyB (o_keep0 rfl rfl rfl rfl Apv Ang) rfl rfl rfl rfl ?_
    refine tP (Aba rfl rfl) rfl rfl rfl rfl ?_;refine tR 2 rfl (tN ?_)
    exact tT (AS (vs:=[_,_]) rfl ⟨[],rfl⟩)
  | cons x l =>
    obtain⟨v,S1,h1,j,rfl,h2⟩:=Apu x l (by have:=hok.2;simp at this;omega)
    refine AyB (o_keepv rfl rfl rfl (by simp only [norefL,Zv.noref,Alt,Bool.and_self]) rfl h1 h2 (Alt _)) rfl rfl rfl rfl ?_
    refine tP (Aba rfl rfl) rfl rfl rfl rfl ?_;refine tR 2 rfl (tN ?_)
    refine tT (AS (vs:=[_,_]) rfl ⟨_,AoX (n:=5) (by simp [Aj,Zv.closed]) (Adh (Azz (n:=4) (by simp [Aj,Zv.closed]) (Adh (Aiz (n:=3) (blk:=⟨1,en (x::l)⟩) rfl rfl (AmQ _)) (Adh Azx (Adi rfl)))) (Adi rfl))⟩)
end Go.Eng.Ga
namespace Go.Eng.Ga
open Go Go.Eng
variable [Inhabited GlobT]
attribute [local irreducible] OpR TL TD TC TS Ak
theorem AzM (E C:List Nat) (n a lo hi:Nat) (hl:E.length≤1000000):Ak APg Abp [gv E C n a lo hi] (.imm (en E)):=by
 refine Al (af:=Abt) rfl rfl ?_
 refine tS (tO (tR 2 rfl (tN (tS (tO (tR 2 rfl ?_))))))
 cases E with
 | nil =>
   refine AyB (o_keep0 rfl rfl rfl rfl Apv Ang) rfl rfl rfl rfl ?_
   refine tR 1 rfl (tN ?_);exact tT (ApT rfl rfl)
 | cons x l =>
   obtain⟨v,S1,h1,j,rfl,h2⟩:=Apu x l (by simp at hl;omega)
   refine AyB (o_keepv rfl rfl rfl (by simp only [norefL,Zv.noref,Alt,Bool.and_self]) rfl h1 h2 (Alt _)) rfl rfl rfl rfl ?_
   refine tR 1 rfl (tN ?_)
   exact tT (AS (vs:=[_]) rfl ⟨_,Aiz (n:=5) (blk:=⟨1,en (x::l)⟩) rfl rfl (AmQ _)⟩)
def eqE (E F:List Nat):Bool:=decide (E.length=F.length) && (List.range E.length).all fun i=>sameF (E.getD i 0) (F.getD i 0)
theorem eqE_self (E:List Nat):eqE E E=true:=by
 unfold eqE sameF
 simp
theorem eqFunc_ok (E F:List Nat) (hE:∀ x∈E,W64 x) (hF:∀ x∈F,W64 x) (hl:E.length<4294967296) (hl2:F.length<4294967296) :
 Ak APg Aaf [.imm (en E),.imm (en F),.fn (.func Abo) [] []] (.bool (eqE E F)):=by
 have hle:(en E).length=E.length:=List.length_map _
 have hlf:(en F).length=F.length:=List.length_map _
 unfold eqE
 refine Al (af:=Aac) rfl rfl ?_
 refine tS (tO (tR 1 rfl (tN (tS (tS (tO ?_))))))
 refine tR 5 rfl (tN ?_)
 refine tQ rfl bne_iff_ne (fun c=>?_) (fun c=>tK ?_)
 ·rw [decide_eq_false (by omega)]
  refine tS (tO (tR 1 rfl (tN ?_)));exact tT (AS rfl ⟨_,fzO rfl⟩)
 rw [decide_eq_true (by omega),Bool.true_and]
 refine tS (tS (tO (tR 3 rfl (tN ?_))))
 refine tB (lST (σ:=Nat) (fun i=>E.length - i) (fun i=>[(0,.imm (en E)),(1,.imm (en F)),(2,.fn (.func Abo) [] []),(15,.imm (en E)),(16,.int .i64 ((en E).length:Int)),(17,.int .i64 (i:Int))])
  (fun i S=>i≤E.length∧∀ j,j<i→sameF (E.getD j 0) (F.getD j 0)=true) 0 (by (repeat' (first | exact wN | refine wC rfl ?_))) ⟨by omega,fun j hj=>absurd hj (by omega)⟩ ?_)
 rintro i S ⟨hi,hb⟩
 refine tS (tO (tR 1 rfl (tN (tS ?_))))
 refine tQ rfl decide_eq_true_iff (fun c=>tK ?_) (fun c=>tX ?_)
 ·have hi':i<E.length:=by omega
  have hi2:i<F.length:=by omega
  have hs:=Aji _ _ (AdR hE i) (AdR hF i)
  refine tS ?_;refine tB ?_;refine tS (tO (tR 1 rfl ?_))
  refine tP (Bl rfl rfl (AQ (d:=0) (by omega)) rfl) rfl rfl rfl rfl ?_;refine tR 3 rfl (tN (tS ?_))
  refine tO (tR 2 rfl ?_);refine tP (Bl rfl rfl (AQ (d:=0) (by omega)) rfl) rfl rfl rfl rfl ?_;refine tR 2 rfl ?_
  refine tN (tS (tO (tR 3 rfl ?_)))
  refine AhR rfl rfl rfl hs rfl rfl rfl rfl rfl rfl ?_
  refine tR 1 rfl (tN ?_)
  cases hq:sameF (E.getD i 0) (F.getD i 0)
  ·have:((List.range E.length).all fun i=>sameF (E.getD i 0) (F.getD i 0))=false:=by
    rw [List.all_eq_false]
    exact⟨i,List.mem_range.2 hi',by rw [hq];simp⟩
   rw [this]
   refine AI (t:=true) rfl (fun _=>?_) (fun h=>nomatch h);refine tS (tO (tR 1 rfl (tN ?_)))
   exact tT (AS rfl ⟨_,fzO rfl⟩)
  ·refine AI (t:=false) rfl (fun h=>nomatch h) (fun _=>?_);refine tK (tO ?_)
   refine tP (oA (b:=1) rfl rfl (by omega)) rfl rfl rfl rfl ?_;refine tR 1 rfl (tN ?_)
   refine⟨i+1,by omega,by (repeat' (first | exact wN | refine wC rfl ?_)),by omega,fun j hj=>?_⟩
   rcases Nat.lt_or_ge j i with k | k
   ·exact hb j k
   ·have:j=i:=by omega
    subst this;exact hq
 ·have:((List.range E.length).all fun i=>sameF (E.getD i 0) (F.getD i 0))=true:=by
   rw [List.all_eq_true]
   exact fun j hj=>hb j (by have:=List.mem_range.1 hj;omega)
  rw [this]
  refine tS (tO (tR 1 rfl (tN ?_)));exact tT (AS rfl ⟨_,fzO rfl⟩)
theorem equalU_ok (L:List Nat) (hl:L.length<4294967296):Ak APg AaP [.imm (eu L),.imm (eu L)] (.bool true):=by
 have hle:(eu L).length=L.length:=List.length_map _
 refine Al (af:=Aam) rfl rfl ?_
 refine tS (tO (tR 1 rfl (tN (tS (tS (tO ?_))))))
 refine tR 5 rfl (tN ?_)
 refine tQ rfl bne_iff_ne (fun c=>absurd rfl c) (fun c=>tK ?_)
 refine tS (tS (tO (tR 3 rfl (tN ?_))))
 refine tB (lST (σ:=Nat) (fun i=>L.length - i) (fun i=>[(0,.imm (eu L)),(1,.imm (eu L)),(11,.imm (eu L)),(12,.int .i64 ((eu L).length:Int)),(13,.int .i64 (i:Int))])
  (fun i S=>i≤L.length) 0 (by (repeat' (first | exact wN | refine wC rfl ?_))) (by omega) ?_)
 intro i S hi
 refine tS (tO (tR 1 rfl (tN (tS ?_))))
 refine tQ rfl decide_eq_true_iff (fun c=>tK ?_) (fun c=>tX ?_)
 ·have hi':i<L.length:=by omega
  refine tS ?_;refine tB ?_;refine tS (tO (tR 2 rfl (tN (tS ?_))))
  refine tD0 rfl ?_;refine dR 2 rfl ?_;refine dP rfl rfl (Bl rfl rfl (AQ (d:=0) (by omega)) rfl) ?_;refine dR 3 rfl ?_
  refine dP rfl rfl (Bl rfl rfl (AQ (d:=0) (by omega)) rfl) ?_;refine dR 2 rfl (dN ?_);refine⟨rfl,?_⟩
  refine tQ rfl bne_iff_ne (fun c=>absurd rfl c) (fun c=>tK ?_)
  refine tO ?_;refine tP (oA (b:=1) rfl rfl (by omega)) rfl rfl rfl rfl ?_;refine tR 1 rfl (tN ?_)
  exact⟨i+1,by omega,by (repeat' (first | exact wN | refine wC rfl ?_)),by omega⟩
 ·refine tS (tO (tR 1 rfl (tN ?_)));exact tT (AS rfl ⟨_,fzO rfl⟩)
theorem cmp_le {a b:Nat}:decide (cmpF a b≤0)=decide (fT a≤fT b):=by
 unfold cmpF cmpI
 refine decide_eq_decide.2 ?_
 split
 ·simp;omega
 ·split<;>simp<;>omega
theorem rStep_ok (E:List Nat) (hE:∀ x∈E,W64 x) (hl:E.length<4294967296) (x:Nat) (hx:W64 x):Ak APg Apg [.imm (en E),fl x] (.int .i64 (stepN E x:Int)):=by
 have hle:(en E).length=E.length:=List.length_map _
 refine Al (af:=Akd) rfl rfl ?_
 refine tS (tO (tR 1 rfl (tN (tS (tS (tO ?_))))))
 refine tR 3 rfl (tN ?_)
 refine tB (lST (σ:=Nat) (fun i=>E.length - i) (fun i=>[(0,.imm (en E)),(1,fl x),(7,.imm (en E)),(8,.int .i64 ((en E).length:Int)),(9,.int .i64 (i:Int))])
  (fun i S=>i≤E.length∧∀ j,j<i→fT (E.getD j 0)<fT x) 0 (by (repeat' (first | exact wN | refine wC rfl ?_))) ⟨by omega,fun j hj=>absurd hj (by omega)⟩ ?_)
 rintro i S ⟨hi,hb⟩
 refine tS (tO (tR 1 rfl (tN (tS ?_))))
 refine tQ rfl decide_eq_true_iff (fun c=>tK ?_) (fun c=>tX ?_)
 ·have hi':i<E.length:=by omega
  have hc:=rcmp_ok x (E.getD i 0) hx (AdR hE i)
  refine tS ?_;refine tB ?_;refine tS (tO (tR 1 rfl ?_))
  refine tP (Bl rfl rfl (AQ (d:=0) (by omega)) rfl) rfl rfl rfl rfl ?_;refine tR 3 rfl (tN (tS ?_))
  refine tO (tR 2 rfl ?_);refine tC rfl rfl (hc) rfl rfl rfl rfl rfl rfl ?_;refine tR 1 rfl (tN ?_)
  rw [cmp_le]
  refine tQ rfl decide_eq_true_iff (fun g=>?_) (fun g=>tK ?_)
  ·rw [ApM hi hb (fun _=>g)]
   refine tS (tO (tR 2 rfl (tN ?_)));exact tT (AS rfl ⟨_,fzO rfl⟩)
  ·refine tO ?_;refine tP (oA (b:=1) rfl rfl (by omega)) rfl rfl rfl rfl ?_;refine tR 1 rfl (tN ?_)
   refine⟨i+1,by omega,by (repeat' (first | exact wN | refine wC rfl ?_)),by omega,fun j hj=>?_⟩
   rcases Nat.lt_or_ge j i with k | k
   ·exact hb j k
   ·have:j=i:=by omega
    subst this;omega
 ·have:i=E.length:=by omega
  subst this
  rw [ApM hi hb (fun h=>absurd h (by omega))]
  rw [←hle]
  refine tS (tO (tR 3 rfl (tN ?_)));exact tT (AS rfl ⟨_,fzO rfl⟩)
end Go.Eng.Ga
namespace Go.Eng.Ga
open Go Go.Eng
variable [Inhabited GlobT]
attribute [local irreducible] OpR TL TD TC TS Ak
def stp (E:List Nat) (s:List Nat × Nat × Nat) (x:Nat):List Nat × Nat × Nat:=if fN x then (s.1,s.2.1+1,s.2.2) else (bump s.1 (stepN E x),s.2.1,s.2.2+1)
def cnt (E l:List Nat):List Nat × Nat × Nat:=l.foldl (stp E) (List.replicate (E.length+1) 0,0,0)
theorem Alf {l:List Nat} {i:Nat} (h:i<l.length):l.take (i+1)=l.take i++[l.getD i 0]:=by
 rw [List.take_add_one,List.getElem?_eq_getElem h,List.getD_eq_getElem?_getD,List.getElem?_eq_getElem h];rfl
theorem cnt_snoc (E l:List Nat) (x:Nat):cnt E (l++[x])=stp E (cnt E l) x:=by unfold cnt;rw [List.foldl_append];rfl
theorem ArM (E:List Nat) {l:List Nat} {i:Nat} (h:i<l.length):cnt E (l.take (i+1))=stp E (cnt E (l.take i)) (l.getD i 0):=by rw [Alf h,cnt_snoc]
structure Ayv (E:List Nat) (m:Nat) (s:List Nat × Nat × Nat):Prop where
 len:s.1.length=E.length+1
 le:∀ x∈s.1,x≤s.2.2
 sum:s.2.1+s.2.2=m
theorem AzY (C:List Nat) (i:Nat):(bump C i).length=C.length:=by unfold bump;simp
theorem bump_le {C:List Nat} {a i:Nat} (h:∀ x∈C,x≤a):∀ x∈bump C i,x≤a+1:=by
 intro x hx
 unfold bump at hx
 rcases List.mem_or_eq_of_mem_set hx with g | g
 ·have:=h x g;omega
 ·subst g
  rw [List.getD_eq_getElem?_getD]
  cases hi:C[i]? with
  | none=>simp
  | some y=>have:=h y (List.mem_of_getElem? hi);simp;omega
theorem stp_ok {E:List Nat} {m:Nat} {s:List Nat × Nat × Nat} (h:Ayv E m s) (x:Nat):Ayv E (m+1) (stp E s x):=by
 unfold stp
 have:=h.sum
 split
 ·exact⟨h.len,h.le,by simp only;omega⟩
 ·exact⟨by simp only [AzY];exact h.len,bump_le h.le,by simp only;omega⟩
theorem cnt_zero (E:List Nat):Ayv E 0 (cnt E []):=⟨List.length_replicate,fun x hx=>by rw [List.eq_of_mem_replicate hx];exact Nat.zero_le _,rfl⟩
theorem AkQ (E l:List Nat):Ayv E l.length (cnt E l):=by
 have:∀ (l:List Nat) (s:List Nat × Nat × Nat) (m:Nat),Ayv E m s→Ayv E (m+l.length) (l.foldl (stp E) s):=by
  intro l
  induction l with
  | nil=>intro s m h;exact h
  | cons x l ih=>intro s m h;rw [List.foldl_cons,List.length_cons,show m+(l.length+1)=m+1+l.length by omega];exact ih _ _ (stp_ok h x)
 have h:=this l _ 0 (cnt_zero E)
 rwa [Nat.zero_add] at h
def eC (E l:List Nat):Zv := .tuple [.imm (eu (cnt E l).1),u6 (cnt E l).2.1,u6 (cnt E l).2.2]
theorem Ajn (E l:List Nat) (hE:∀ x∈E,W64 x) (hL:∀ x∈l,W64 x) (hel:E.length<4294967296) (hll:l.length<4294967296):Ak APg AfE [.imm (en E),.imm (en l)] (eC E l):=by
 have hle:(en E).length=E.length:=List.length_map _
 have hll':(en l).length=l.length:=List.length_map _
 refine Al (af:=AfO) rfl rfl ?_
 refine tS (tO (tR 3 rfl (tN (tS (tO (tR 2 rfl ?_))))))
 refine tP (oA (b:=1) rfl rfl (by omega)) rfl rfl rfl rfl ?_;refine AH (Azf rfl rfl (by omega) (by omega)) rfl rfl rfl rfl ?_
 refine tR 1 rfl (tN (tS (tO (tR 2 rfl (tN (tS ?_))))))
 refine tS (tO (tR 3 rfl (tN ?_)))
 refine tB (lST (σ:=Nat) (fun i=>l.length - i) (fun i=>[(0,.imm (en E)),(7,.view 0 0 ((en E).length+1) true),(8,u6 (cnt E (l.take i)).2.1),(9,u6 (cnt E (l.take i)).2.2),(16,.imm (en l)),(17,.int .i64 ((en l).length:Int)),(18,.int .i64 (i:Int))])
  (fun i S=>i≤l.length∧S=[some ⟨1,eu (cnt E (l.take i)).1⟩]) 0 (by (repeat' (first | exact wN | refine wC rfl ?_))) ⟨by omega,?_⟩ ?_)
 ·rw [hle]
  show [some (⟨1,List.replicate (E.length+1) [u6 0]⟩:ABlock)]=[some ⟨1,eu (List.replicate (E.length+1) 0)⟩]
  rw [show eu (List.replicate (E.length+1) 0)=List.replicate (E.length+1) [u6 0] from List.map_replicate]
 rintro i S ⟨hi,rfl⟩
 have hok:=AkQ E (l.take i)
 rw [List.length_take_of_le hi] at hok
 refine tS (tO (tR 1 rfl (tN (tS ?_))))
 refine tQ rfl decide_eq_true_iff (fun c=>tK ?_) (fun c=>tX ?_)
 ·have hi':i<l.length:=by omega
  have hne:=Apl (AdR hL i)
  have hrs:=rStep_ok E hE hel (l.getD i 0) (AdR hL i)
  have hcs:=ArM E hi'
  generalize cnt E (l.take i)=s at *
  obtain⟨C,n,a⟩:=s
  have hsm:=hok.sum
  have hln:=hok.len
  have hcl:=hok.le
  dsimp only at hsm hln hcl ⊢
  refine tS ?_;refine tB ?_;refine tS (tO ?_)
  refine tP (Bl rfl rfl (AQ (d:=0) (by omega)) rfl) rfl rfl rfl rfl ?_;refine tR 2 rfl (tN (tS ?_))
  refine tO (tR 3 rfl (tN ?_))
  rw [hne]
  cases hn:fN (l.getD i 0)
  ·rw [stp,hn] at hcs
   have hcs:cnt E (l.take (i+1))=(bump C (stepN E (l.getD i 0)),n,a+1):=hcs
   have hsl:stepN E (l.getD i 0)<C.length:=by have:=ApL E (l.getD i 0);omega
   have hcb:C.getD (stepN E (l.getD i 0)) 0<4294967296:=by
    rw [List.getD_eq_getElem?_getD,List.getElem?_eq_getElem hsl]
    have:=hcl _ (List.getElem_mem hsl)
    simp only [Option.getD_some];omega
   refine AI (t:=false) rfl (fun h=>nomatch h) (fun _=>?_);refine tS (tO (tR 1 rfl ?_))
   refine tP (Ait (b:=1) rfl rfl (AaA (by omega))) rfl rfl rfl rfl ?_;refine tR 1 rfl (tN (tO ?_))
   refine tR 3 rfl ?_
   refine tC rfl (by simp [Zv.closed,Aj,Ao,cLm,cLLm]) (hrs) (by simp [Zv.noref,Zv.flat,norefL,Aab,nLm,nLLm]) rfl rfl rfl rfl rfl ?_
   refine tP (AE rfl rfl (by omega) rfl rfl) rfl rfl rfl rfl ?_;refine tP (AbO 0 rfl rfl (by omega) rfl) rfl rfl rfl rfl ?_
   refine tP (Ait (b:=1) rfl rfl (AaA (by omega))) rfl rfl rfl rfl ?_
   refine tP (AE rfl rfl (by omega) rfl rfl) rfl rfl rfl rfl ?_
   refine tP (Agg 0 rfl rfl rfl (by omega) ⟨_,rfl⟩ rfl rfl) rfl rfl rfl rfl ?_;refine tN (tO ?_)
   refine tP (oA (b:=1) rfl rfl (by omega)) rfl rfl rfl rfl ?_;refine tR 1 rfl (tN ?_)
   refine⟨i+1,by omega,by rw [hcs];(repeat' (first | exact wN | refine wC rfl ?_)),by omega,by rw [hcs];rfl⟩
  ·rw [stp,hn] at hcs
   have hcs:cnt E (l.take (i+1))=(C,n+1,a):=hcs
   refine AI (t:=true) rfl (fun _=>?_) (fun h=>nomatch h);refine tO (tR 1 rfl ?_)
   refine tP (Ait (b:=1) rfl rfl (AaA (by omega))) rfl rfl rfl rfl ?_;refine tR 1 rfl (tN (tO ?_))
   refine tP (oA (b:=1) rfl rfl (by omega)) rfl rfl rfl rfl ?_;refine tR 1 rfl (tN ?_)
   refine⟨i+1,by omega,by rw [hcs];(repeat' (first | exact wN | refine wC rfl ?_)),by omega,by rw [hcs]⟩
 ·have:i=l.length:=by omega
  subst this
  rw [List.take_length] at hok ⊢
  have hln:=hok.len
  unfold eC
  generalize cnt E l=s at *
  obtain⟨C,n,a⟩:=s
  dsimp only at hln ⊢
  refine tS (tO (tR 6 rfl (tN ?_)))
  exact tT (AS (vs:=[_,_,_]) rfl ⟨_,AoX (n:=5) (by simp [Aj,Zv.closed]) (Adh (Aiz (n:=4) (blk:=⟨1,eu C⟩) rfl (by simp only [List.length_map];omega) (AmM _)) (Adi rfl))⟩)
end Go.Eng.Ga
namespace Go.Eng.Ga
open Go Go.Eng
variable [Inhabited GlobT]
attribute [local irreducible] OpR TL TD TC TS Ak
structure GS where
 C:List Nat
 n:Nat
 a:Nat
 lo:Nat
 hi:Nat
abbrev gvs (E:List Nat) (s:GS):Zv:=gv E s.C s.n s.a s.lo s.hi
def addS (E:List Nat) (s:GS) (x:Nat):GS :=
 if fN x then ⟨s.C,s.n+1,s.a,s.lo,s.hi⟩ else ⟨bump (fillC E s.C) (stepN E x),s.n,s.a+1,minF (if s.a=0 then x else s.lo) x,maxF (if s.a=0 then x else s.hi) x⟩
def gOf (E l:List Nat):GS:=l.foldl (addS E) ⟨[],0,0,0,0⟩
theorem gOf_snoc (E l:List Nat) (x:Nat):gOf E (l++[x])=addS E (gOf E l) x:=by unfold gOf;rw [List.foldl_append];rfl
theorem Aqs (E:List Nat) {l:List Nat} {i:Nat} (h:i<l.length):gOf E (l.take (i+1))=addS E (gOf E (l.take i)) (l.getD i 0):=by rw [Alf h,gOf_snoc]
structure GsOk (E:List Nat) (s:GS) (c:List Nat × Nat × Nat):Prop where
 c1:fillC E s.C=c.1
 c2:s.n=c.2.1
 c3:s.a=c.2.2
 len:s.C=[]∨s.C.length=E.length+1
 le:∀ x∈s.C,x≤s.a
 ol:W64 s.lo
 oh:W64 s.hi
theorem Bbi {E C:List Nat} (h:C.length=E.length+1):fillC E C=C:=by unfold fillC;rw [h,Nat.sub_self];simp
theorem minF_w {a b:Nat} (ha:W64 a) (hb:W64 b):W64 (minF a b):=by
 unfold minF
 split
 ·exact hb
 ·exact ha
theorem maxF_w {a b:Nat} (ha:W64 a) (hb:W64 b):W64 (maxF a b):=by
 unfold maxF
 split
 ·exact hb
 ·exact ha
theorem addS_ok {E:List Nat} {s:GS} {c:List Nat × Nat × Nat} (h:GsOk E s c) (hc:c.1.length=E.length+1) (hl:∀ x∈c.1,x≤c.2.2) {x:Nat} (hx:W64 x):GsOk E (addS E s x) (stp E c x):=by
 unfold addS stp
 obtain⟨h1,h2,h3,h4,h5,h6,h7⟩:=h
 split
 ·exact⟨h1,by simp only;omega,h3,h4,h5,h6,h7⟩
 ·have hb:(bump (fillC E s.C) (stepN E x)).length=E.length+1:=by rw [AzY,h1,hc]
  refine⟨?_,h2,by simp only;omega,.inr hb,?_,?_,?_⟩
  ·rw [Bbi hb,h1]
  ·rw [h1,h3];exact bump_le hl
  ·refine minF_w ?_ hx
   split
   ·exact hx
   ·exact h6
  ·refine maxF_w ?_ hx
   split
   ·exact hx
   ·exact h7
theorem gOf_ok (E:List Nat) {l:List Nat} (hL:∀ x∈l,W64 x):GsOk E (gOf E l) (cnt E l):=by
 have hz:GsOk E (gOf E []) (cnt E []):=⟨by simp [gOf,cnt,fillC],rfl,rfl,.inl rfl,(fun x hx=>absurd hx List.not_mem_nil),show W64 0 by decide,show W64 0 by decide⟩
 have:∀ i,i≤l.length→GsOk E (gOf E (l.take i)) (cnt E (l.take i)):=by
  intro i
  induction i with
  | zero=>intro _;rw [List.take_zero];exact hz
  | succ i ih =>
    intro hi
    rw [Aqs E (by omega),ArM E (by omega)]
    have hk:=AkQ E (l.take i)
    exact addS_ok (ih (by omega)) hk.len hk.le (AdR hL i)
 have h:=this l.length (Nat.le_refl _)
 rwa [List.take_length] at h
theorem AoR {l:List Nat} (hL:∀ x∈l,W64 x) (i:Nat):∀ x∈l.take i,W64 x:=fun x hx=>hL x (List.mem_of_mem_take hx)
theorem OkG.of {E:List Nat} (hE:OkE E) (hel:E.length<4294967296) {s:GS} {c:List Nat × Nat × Nat} (h:GsOk E s c) {m:Nat} (hk:Ayv E m c) (hm:m<4294967296):OkG E s.C s.n s.a s.lo s.hi :=
 ⟨hE,hel,h.len,by have:=hk.sum;have:=h.c2;omega,by have:=hk.sum;have:=h.c3;omega,h.le,h.ol,h.oh⟩
theorem addS_call (E:List Nat) (s:GS) (h:OkG E s.C s.n s.a s.lo s.hi) (x:Nat) (hx:W64 x):Ak APg Abd [gvs E s,fl x] (gvs E (addS E s x)):=by
 unfold addS
 cases hn:fN x
 ·exact addX_ok E s.C s.n s.a s.lo s.hi h x hx hn
 ·exact addN_ok E s.C s.n s.a s.lo s.hi h x hx hn
theorem of_gen (E F l:List Nat) (code:Nat) (hl:l.length<4294967296) (hL:∀ x∈l,W64 x) (hF:OkE F) (hfl:F.length<4294967296)
 (hnew:Ak APg Adj [.imm (en E)] (.tuple [gv F [] 0 0 0 0,.int .i64 (code:Int)])):Ak APg AzF [.imm (en E),.imm (en l)] (.tuple [gvs F (gOf F l),.int .i64 (code:Int)]):=by
 have hll':(en l).length=l.length:=List.length_map _
 refine Al (af:=ArQ) rfl rfl ?_
 refine tS (tO (tR 2 rfl (tN (tS (tO (tR 1 rfl ?_))))))
 refine tC rfl (by simp [Zv.closed,Aj,Ao,cLm,cLLm]) (hnew) (by simp [Zv.noref,Zv.flat,norefL,Aab,nLm,nLLm]) rfl rfl rfl rfl rfl ?_
 refine tR 6 rfl (tN (tS (tS (tO (tR 3 rfl (tN ?_))))))
 refine tB (lST (σ:=Nat) (fun i=>l.length - i) (fun i=>[(4,.ptr 0 0 0),(6,.ptr 1 0 0),(7,.int .i64 (code:Int)),(15,.imm (en l)),(16,.int .i64 ((en l).length:Int)),(17,.int .i64 (i:Int))])
  (fun i S=>i≤l.length∧S=[some ⟨6,[[.nils,.nils,.int .u64 0,.int .u64 0,.flt .f64 0,.flt .f64 0]]⟩,some ⟨6,[gc F (gOf F (l.take i)).C (gOf F (l.take i)).n (gOf F (l.take i)).a (gOf F (l.take i)).lo (gOf F (l.take i)).hi]⟩]) 0 (by (repeat' (first | exact wN | refine wC rfl ?_))) ⟨by omega,rfl⟩ ?_)
 rintro i S ⟨hi,rfl⟩
 refine tS (tO (tR 1 rfl (tN (tS ?_))))
 refine tQ rfl decide_eq_true_iff (fun c=>tK ?_) (fun c=>tX ?_)
 ·have hi':i<l.length:=by omega
  have hk:=AkQ F (l.take i)
  rw [List.length_take_of_le hi] at hk
  have ha:=addS_call F (gOf F (l.take i)) (OkG.of hF hfl (gOf_ok F (AoR hL i)) hk (by omega)) (l.getD i 0) (AdR hL i)
  have hs:=Aqs F hi'
  generalize gOf F (l.take i)=s at *
  refine tS ?_;refine tB ?_;refine tS (tO ?_)
  refine tP (Bl rfl rfl (AQ (d:=0) (by omega)) rfl) rfl rfl rfl rfl ?_;refine tR 2 rfl (tN (tO ?_))
  refine tR 2 rfl ?_
  refine tC rfl (by simp [Zv.closed,Aj,Ao,cLm,cLLm]) (ha) (by simp [Zv.noref,Zv.flat,norefL,Aab,nLm,nLLm]) rfl rfl rfl rfl rfl ?_
  refine tR 1 rfl (tN (tO ?_));refine tP (oA (b:=1) rfl rfl (by omega)) rfl rfl rfl rfl ?_
  refine tR 1 rfl (tN ?_)
  refine⟨i+1,by omega,by (repeat' (first | exact wN | refine wC rfl ?_)),by omega,by rw [hs]⟩
 ·have:i=l.length:=by omega
  subst this
  rw [List.take_length]
  refine tS (tO (tR 4 rfl (tN ?_)))
  exact tT (AS rfl ⟨_,fzO (by simp [one,Bn,Zv.closed,Aj,cLm,cLLm])⟩)
end Go.Eng.Ga
namespace Go.Eng.Ga
open Go Go.Eng
variable [Inhabited GlobT]
attribute [local irreducible] OpR TL TD TC TS Ak
structure SP where
 lo:Nat
 hi:Nat
 b:Bool
def spS (s:SP) (x:Nat):SP:=if fN x then s else ⟨if s.b then minF s.lo x else x,if s.b then maxF s.hi x else x,true⟩
def spL (l:List Nat):SP:=l.foldl spS ⟨9221120237041090561,9221120237041090561,false⟩
theorem spL_snoc (l:List Nat) (x:Nat):spL (l++[x])=spS (spL l) x:=by unfold spL;rw [List.foldl_append];rfl
theorem ApO {l:List Nat} {i:Nat} (h:i<l.length):spL (l.take (i+1))=spS (spL (l.take i)) (l.getD i 0):=by rw [Alf h,spL_snoc]
theorem spL_w {l:List Nat} (hL:∀ x∈l,W64 x):W64 (spL l).lo∧W64 (spL l).hi:=by
 have:∀ i,i≤l.length→W64 (spL (l.take i)).lo∧W64 (spL (l.take i)).hi:=by
  intro i
  induction i with
  | zero=>intro _;rw [List.take_zero];exact⟨show W64 9221120237041090561 by decide,show W64 9221120237041090561 by decide⟩
  | succ i ih =>
    intro hi
    rw [ApO (by omega)]
    obtain⟨h1,h2⟩:=ih (by omega)
    have hx:=AdR hL i
    unfold spS
    split
    ·exact⟨h1,h2⟩
    ·refine⟨?_,?_⟩
     ·show W64 (if _ then _ else _)
      split
      ·exact minF_w h1 hx
      ·exact hx
     ·show W64 (if _ then _ else _)
      split
      ·exact maxF_w h2 hx
      ·exact hx
 have h:=this l.length (Nat.le_refl _)
 rwa [List.take_length] at h
structure IsG (E l:List Nat) (s:GS):Prop where
 c1:fillC E s.C=(cnt E l).1
 c2:s.n=(cnt E l).2.1
 c3:s.a=(cnt E l).2.2
 cl:s.C.length≤E.length+1
 b:(spL l).b=decide (s.a≠0)
 ol:W64 s.lo
 oh:W64 s.hi
 lo:s.a≠0→sameF s.lo (spL l).lo=true
 hi:s.a≠0→sameF s.hi (spL l).hi=true
theorem spL_nan {l:List Nat} (h:(spL l).b=false):(spL l).lo=9221120237041090561∧(spL l).hi=9221120237041090561:=by
 have:∀ (l:List Nat) (s:SP),(s.b=false→s.lo=9221120237041090561∧s.hi=9221120237041090561)→((l.foldl spS s).b=false→(l.foldl spS s).lo=9221120237041090561∧(l.foldl spS s).hi=9221120237041090561):=by
  intro l
  induction l with
  | nil=>intro s h;exact h
  | cons x l ih =>
    intro s h
    rw [List.foldl_cons]
    refine ih _ fun hb=>?_
    unfold spS at hb ⊢
    split
    ·rename_i g
     rw [if_pos g] at hb
     exact h hb
    ·rename_i g
     rw [if_neg g] at hb
     cases hb
 exact this l _ (fun _=>⟨rfl,rfl⟩) h
theorem is_ok (E l:List Nat) (hE:∀ x∈E,W64 x) (hL:∀ x∈l,W64 x) (hel:E.length≤1000000) (hll:l.length<4294967296) (s:GS) (h:IsG E l s) :
 Ak APg AzG [gvs E s,.imm (en E),.imm (en l)] (.bool true):=by
 have hll':(en l).length=l.length:=List.length_map _
 have h1:=Ajn E l hE hL (by omega) hll
 have h2:=nan_ok
 refine Al (af:=ArR) rfl rfl ?_
 refine tS (tO (tR 2 rfl (tN (tS (tO (tR 2 rfl ?_))))))
 refine tC rfl (by simp [Zv.closed,Aj,Ao,cLm,cLLm]) (h1) (by simp [Zv.noref,Zv.flat,norefL,Aab,nLm,nLLm]) rfl rfl rfl rfl rfl ?_
 refine tR 7 rfl (tN (tS (tO ?_)));refine tC rfl rfl (h2) rfl rfl rfl rfl rfl rfl ?_
 refine tC rfl rfl (h2) rfl rfl rfl rfl rfl rfl ?_;refine tR 2 rfl (tN (tS (tO ?_)))
 refine tR 1 rfl (tN (tS (tS (tO (tR 3 rfl (tN ?_))))))
 refine tB (lST (σ:=Nat) (fun i=>l.length - i) (fun i=>[(1,.imm (en E)),(2,.imm (en l)),(3,.ptr 0 0 0),(7,.imm (eu (cnt E l).1)),(8,u6 (cnt E l).2.1),(9,u6 (cnt E l).2.2),
  (10,fl (spL (l.take i)).lo),(11,fl (spL (l.take i)).hi),(12,.bool (spL (l.take i)).b),(26,.imm (en l)),(27,.int .i64 ((en l).length:Int)),(28,.int .i64 (i:Int))])
  (fun i S=>i≤l.length∧S=[some ⟨6,[gc E s.C s.n s.a s.lo s.hi]⟩]) 0 (by (repeat' (first | exact wN | refine wC rfl ?_))) ⟨by omega,rfl⟩ ?_)
 rintro i S ⟨hi,rfl⟩
 refine tS (tO (tR 1 rfl (tN (tS ?_))))
 refine tQ rfl decide_eq_true_iff (fun c=>tK ?_) (fun c=>tX ?_)
 ·have hi':i<l.length:=by omega
  have hne:=Apl (AdR hL i)
  have hw:=AdR hL i
  obtain⟨w1,w2⟩:=spL_w (AoR hL i)
  have hs:=ApO hi'
  generalize spL (l.take i)=q at *
  have hcl:=AkR (l.getD i 0) q.lo hw w1
  have hch:=AkR (l.getD i 0) q.hi hw w2
  obtain⟨lo,hi2,b⟩:=q
  dsimp only at hcl hch w1 w2 ⊢
  refine tS ?_;refine tB ?_;refine tS (tO ?_)
  refine tP (Bl rfl rfl (AQ (d:=0) (by omega)) rfl) rfl rfl rfl rfl ?_;refine tR 2 rfl (tN (tS ?_))
  refine tS (tO (tR 3 rfl (tN ?_)))
  rw [hne]
  cases hn:fN (l.getD i 0)
  ·rw [spS,hn] at hs
   cases b
   ·have hs:spL (l.take (i+1))=⟨l.getD i 0,l.getD i 0,true⟩:=hs
    refine AI (t:=false) rfl (fun h=>nomatch h) (fun _=>?_);refine tK (tS (tS (tO ?_)))
    refine tR 8 rfl (tN ?_);refine AI (t:=true) rfl (fun _=>?_) (fun h=>nomatch h);refine tO (tR 2 rfl ?_)
    refine tN (tS (tS (tO (tR 8 rfl (tN ?_)))))
    refine AI (t:=true) rfl (fun _=>?_) (fun h=>nomatch h);refine tO (tR 2 rfl (tN (tO ?_)))
    refine tR 1 rfl (tN (tO ?_));refine tP (oA (b:=1) rfl rfl (by omega)) rfl rfl rfl rfl ?_
    refine tR 1 rfl (tN ?_)
    exact⟨i+1,by omega,by rw [hs];(repeat' (first | exact wN | refine wC rfl ?_)),by omega,rfl⟩
   ·have hs:spL (l.take (i+1))=⟨minF lo (l.getD i 0),maxF hi2 (l.getD i 0),true⟩:=hs
    unfold minF maxF at hs
    refine AI (t:=false) rfl (fun h=>nomatch h) (fun _=>?_);refine tK (tS (tS (tO ?_)))
    refine tR 5 rfl ?_;refine tC rfl rfl (hcl) rfl rfl rfl rfl rfl rfl ?_;refine tR 2 rfl (tN ?_)
    rw [Ayg]
    refine tQ rfl decide_eq_true_iff (fun g=>?_) (fun g=>tK ?_)
    ·rw [if_pos g] at hs
     refine tO (tR 2 rfl (tN (tS (tS (tO (tR 5 rfl ?_))))))
     refine tC rfl rfl (hch) rfl rfl rfl rfl rfl rfl ?_;refine tR 2 rfl (tN ?_)
     rw [Ayf]
     refine tQ rfl decide_eq_true_iff (fun g=>?_) (fun g=>tK ?_)
     ·rw [if_pos g] at hs
      refine tO (tR 2 rfl (tN (tO (tR 1 rfl (tN (tO ?_))))))
      refine tP (oA (b:=1) rfl rfl (by omega)) rfl rfl rfl rfl ?_;refine tR 1 rfl (tN ?_)
      exact⟨i+1,by omega,by rw [hs];(repeat' (first | exact wN | refine wC rfl ?_)),by omega,rfl⟩
     ·rw [if_neg g] at hs
      refine tO (tR 1 rfl (tN (tO ?_)));refine tP (oA (b:=1) rfl rfl (by omega)) rfl rfl rfl rfl ?_
      refine tR 1 rfl (tN ?_)
      exact⟨i+1,by omega,by rw [hs];(repeat' (first | exact wN | refine wC rfl ?_)),by omega,rfl⟩
    ·rw [if_neg g] at hs
     refine tS (tS (tO (tR 5 rfl ?_)));refine tC rfl rfl (hch) rfl rfl rfl rfl rfl rfl ?_
     refine tR 2 rfl (tN ?_)
     rw [Ayf]
     refine tQ rfl decide_eq_true_iff (fun g=>?_) (fun g=>tK ?_)
     ·rw [if_pos g] at hs
      refine tO (tR 2 rfl (tN (tO (tR 1 rfl (tN (tO ?_))))))
      refine tP (oA (b:=1) rfl rfl (by omega)) rfl rfl rfl rfl ?_;refine tR 1 rfl (tN ?_)
      exact⟨i+1,by omega,by rw [hs];(repeat' (first | exact wN | refine wC rfl ?_)),by omega,rfl⟩
     ·rw [if_neg g] at hs
      refine tO (tR 1 rfl (tN (tO ?_)));refine tP (oA (b:=1) rfl rfl (by omega)) rfl rfl rfl rfl ?_
      refine tR 1 rfl (tN ?_)
      exact⟨i+1,by omega,by rw [hs];(repeat' (first | exact wN | refine wC rfl ?_)),by omega,rfl⟩
  ·rw [spS,hn] at hs
   have hs:spL (l.take (i+1))=⟨lo,hi2,b⟩:=hs
   refine AI (t:=true) rfl (fun _=>?_) (fun h=>nomatch h);refine tX ?_;refine tO ?_
   refine tP (oA (b:=1) rfl rfl (by omega)) rfl rfl rfl rfl ?_;refine tR 1 rfl (tN ?_)
   exact⟨i+1,by omega,by rw [hs];(repeat' (first | exact wN | refine wC rfl ?_)),by omega,rfl⟩
 ·have:i=l.length:=by omega
  subst this
  rw [List.take_length]
  have hsp:=span_ok E s.C s.n s.a s.lo s.hi
  have hct:=counts_ok E s.C s.n s.a s.lo s.hi (by omega) h.cl
  have htl:=total_ok E s.C s.n s.a s.lo s.hi
  have hno:=none_ok E s.C s.n s.a s.lo s.hi
  have hed:=AzM E s.C s.n s.a s.lo s.hi hel
  have hef:=eqFunc_ok E E hE hE (by omega) (by omega)
  rw [eqE_self] at hef
  have hlen:=(AkQ E l).len
  have heq:=equalU_ok (cnt E l).1 (by omega)
  rw [h.c1] at hct
  rw [h.c2,h.c3] at htl hno
  have key:∃ p q,spanV s.a s.lo s.hi=[fl p,fl q]∧W64 p∧W64 q∧sameF p (spL l).lo=true∧sameF q (spL l).hi=true:=by
   unfold spanV
   by_cases g:s.a=0
   ·rw [if_pos g]
    have hb:=h.b
    rw [decide_eq_false (by omega)] at hb
    obtain⟨e1,e2⟩:=spL_nan hb
    exact⟨_,_,rfl,by decide,by decide,by rw [e1];decide,by rw [e2];decide⟩
   ·rw [if_neg g]
    exact⟨_,_,rfl,h.ol,h.oh,h.lo g,h.hi g⟩
  obtain⟨p,q,e,wp,wq,sp,sq⟩:=key
  rw [e] at hsp
  obtain⟨w1,w2⟩:=spL_w hL
  have hs1:=Aji p (spL l).lo wp w1
  have hs2:=Aji q (spL l).hi wq w2
  rw [sp] at hs1
  rw [sq] at hs2
  rw [h.c2,h.c3] at *
  refine tS (tO (tR 1 rfl ?_))
  refine tC rfl (by simp [Zv.closed,Aj,Ao,cLm,cLLm]) (hsp) (by simp [Zv.noref,Zv.flat,norefL,Aab,nLm,nLLm]) rfl rfl rfl rfl rfl ?_
  refine tR 5 rfl (tN (tS (tO (tR 1 rfl ?_))))
  refine tC rfl (by simp [Zv.closed,Aj,Ao,cLm,cLLm]) (hct) (by simp [Zv.noref,Zv.flat,norefL,Aab,nLm,nLLm]) rfl rfl rfl rfl rfl ?_
  refine tR 1 rfl ?_
  refine tC rfl (by simp [Zv.closed,Aj,Ao,cLm,cLLm]) (heq) (by simp [Zv.noref,Zv.flat,norefL,Aab,nLm,nLLm]) rfl rfl rfl rfl rfl ?_
  refine tR 2 rfl ?_
  refine tC rfl (by simp [Zv.closed,Aj,Ao,cLm,cLLm]) (hno) (by simp [Zv.noref,Zv.flat,norefL,Aab,nLm,nLLm]) rfl rfl rfl rfl rfl ?_
  refine tR 4 rfl ?_
  rw [beq_self_eq_true ((cnt E l).2.1:Int)]
  refine tR 1 rfl ?_
  refine tC rfl (by simp [Zv.closed,Aj,Ao,cLm,cLLm]) (htl) (by simp [Zv.noref,Zv.flat,norefL,Aab,nLm,nLLm]) rfl rfl rfl rfl rfl ?_
  refine tR 4 rfl ?_
  rw [beq_self_eq_true ((cnt E l).2.2:Int)]
  refine tR 2 rfl ?_;refine tC rfl rfl (hs1) rfl rfl rfl rfl rfl rfl ?_;refine tR 4 rfl ?_
  refine tC rfl rfl (hs2) rfl rfl rfl rfl rfl rfl ?_;refine tR 3 rfl ?_
  refine tC rfl (by simp [Zv.closed,Aj,Ao,cLm,cLLm]) (hed) (by simp [Zv.noref,Zv.flat,norefL,Aab,nLm,nLLm]) rfl rfl rfl rfl rfl ?_
  refine tR 1 rfl ?_
  refine tC rfl (by simp [Zv.closed,Aj,Ao,cLm,cLLm]) (hef) (by simp [Zv.noref,Zv.flat,norefL,Aab,nLm,nLLm]) rfl rfl rfl rfl rfl ?_
  refine tR 2 rfl (tN ?_);exact tT (AS rfl ⟨_,fzO rfl⟩)
end Go.Eng.Ga
namespace Go.Eng.Ga
open Go Go.Eng Ieee
variable [Inhabited GlobT]
attribute [local irreducible] OpR TL TD TC TS Ak
end Go.Eng.Ga
namespace Go.Eng.Ga
open Go Go.Eng Ieee
variable [Inhabited GlobT]
attribute [local irreducible] OpR TL TD TC TS Ak
end Go.Eng.Ga
namespace Go.Eng.Ga
open Go Go.Eng Ieee
variable [Inhabited GlobT]
attribute [local irreducible] OpR TL TD TC TS Ak
end Go.Eng.Ga
namespace Go.Eng.Ga
open Go Go.Eng Ieee
variable [Inhabited GlobT]
attribute [local irreducible] OpR TL TD TC TS Ak
theorem gOf_sp (E:List Nat) (l:List Nat):(spL l).b=decide ((gOf E l).a≠0)∧((gOf E l).a≠0→(gOf E l).lo=(spL l).lo∧(gOf E l).hi=(spL l).hi):=by
 have:∀ i,i≤l.length→(spL (l.take i)).b=decide ((gOf E (l.take i)).a≠0)∧((gOf E (l.take i)).a≠0→(gOf E (l.take i)).lo=(spL (l.take i)).lo∧(gOf E (l.take i)).hi=(spL (l.take i)).hi):=by
  intro i
  induction i with
  | zero=>intro _;rw [List.take_zero];exact⟨rfl,fun h=>absurd rfl h⟩
  | succ i ih =>
    intro hi
    obtain⟨h1,h2⟩:=ih (by omega)
    rw [Aqs E (by omega),ApO (by omega)]
    unfold addS spS
    split
    ·exact⟨h1,h2⟩
    ·refine⟨(decide_eq_true (by simp)).symm,fun _=>?_⟩
     dsimp only
     by_cases g:(gOf E (l.take i)).a=0
     ·rw [g] at h1
      rw [h1,if_pos g,if_pos g]
      exact⟨by unfold minF;simp,by unfold maxF;simp⟩
     ·rw [decide_eq_true g] at h1
      rw [h1,if_neg g,if_neg g,(h2 g).1,(h2 g).2]
      exact⟨rfl,rfl⟩
 have h:=this l.length (Nat.le_refl _)
 rwa [List.take_length] at h
theorem Ajj (a:Nat):sameF a a=true:=decide_eq_true rfl
theorem gOf_is (E:List Nat) {l:List Nat} (hL:∀ x∈l,W64 x):IsG E l (gOf E l):=by
 obtain⟨h1,h2⟩:=gOf_sp E l
 have g:=gOf_ok E hL
 exact⟨g.c1,g.c2,g.c3,by rcases g.len with c | c<;>simp [c],h1,g.ol,g.oh,fun h=>by rw [(h2 h).1];exact Ajj _,fun h=>by rw [(h2 h).2];exact Ajj _⟩
end Go.Eng.Ga
namespace Go.Eng.Ga
open Go Go.Eng Ieee
variable [Inhabited GlobT]
attribute [local irreducible] OpR TL TD TC TS Ak
end Go.Eng.Ga
namespace Go.Eng.Ga
open Go Go.Eng Ieee
variable [Inhabited GlobT]
attribute [local irreducible] OpR TL TD TC TS Ak
end Go.Eng.Ga
namespace Go.Eng.Ga
open Go Go.Eng
variable [Inhabited GlobT]
attribute [local irreducible] OpR TL TD TC TS Ak
theorem counts_tc {S:Ab} {K:Zv→Ab→Prop} {E C:List Nat} {n a lo hi:Nat} (hE:E.length<4294967296) (hC:C.length≤E.length+1)
 (h:K (.view (S.length+1) 0 (E.length+1) true) (S++[some ⟨6,[gc E C n a lo hi]⟩]++[some ⟨1,eu (fillC E C)⟩])) :
 TC APg (max Abf.nargs Abf.N) Abf.body (Awo 0 [gv E C n a lo hi]) S fun ex m2 S2=>(ex = .normal∨ex = .ret)∧∃ vs,Abx m2 S2 Abf.res=some vs∧K (one vs) S2:=by
 have hle:(en E).length=E.length:=List.length_map _
 refine tS (tO ?_);refine AH (o_box rfl rfl rfl rfl) rfl rfl rfl rfl ?_;refine tR 1 rfl (tN (tS ?_))
 refine tO (tR 1 rfl ?_);refine tP (BK rfl (Ax AW) rfl (Nat.le_of_ble_eq_true rfl) rfl) rfl rfl rfl rfl ?_
 refine tR 1 rfl ?_;refine tP (oA (b:=1) rfl rfl (by omega)) rfl rfl rfl rfl ?_
 refine AH (Azf rfl rfl (by omega) (by omega)) rfl rfl rfl rfl ?_;refine tR 1 rfl (tN (tS (tO ?_)))
 refine tR 2 rfl ?_
 rw [BN,BN]
 have h1:(S++[some ⟨6,[gc E C n a lo hi]⟩]++[some ⟨1,List.replicate ((en E).length+1) [u6 0]⟩])[S.length]?=some (some ⟨6,[gc E C n a lo hi]⟩):=AU AW
 refine tP (BK (v := .imm (eu C)) rfl h1 rfl (Nat.le_of_ble_eq_true rfl) rfl) rfl rfl rfl rfl ?_
 refine tP (Awh (rows:=List.replicate ((en E).length+1) [u6 0]) (ys:=eu C) (n:=C.length) rfl rfl (rows_eu C) AW (by simp;omega) (by simp) (AwJ C)) rfl rfl rfl rfl ?_
 rw [BN]
 have e:(List.replicate ((en E).length+1) [u6 0]).take 0++(eu C).take C.length++(List.replicate ((en E).length+1) [u6 0]).drop (0+C.length)=eu (fillC E C):=by
  simp [fillC,eu,List.take_of_length_le]
 rw [e]
 refine tN (tS (tO (tR 2 rfl (tN ?_))))
 refine tT ⟨.inr rfl,_,rfl,?_⟩
 have e2:(S++[some (⟨6,[Bn (gv E C n a lo hi)]⟩:ABlock)]).length=S.length+1:=List.length_append
 rw [e2,hle]
 exact h
theorem td_counts {N:Nat} {d:Option Nat} {args:List Ag} {g:Option (Nat × Bool)} {un:List Nat} {slot:Nat} {l:List (Ae × Nat)} {m:FM} {S:Ab} {K:FM→Ab→List FP→Prop} {E C:List Nat} {n a lo hi:Nat}
 (hE:E.length<4294967296) (hC:C.length≤E.length+1)
 (hd:(d.all fun d=>d<N)=true) (hg:gd m g=some true) (ha:los m args=some [gv E C n a lo hi])
 (h:TD APg N l (putM m d (.view (S.length+1) 0 (E.length+1) true)) (S++[some ⟨6,[gc E C n a lo hi]⟩]++[some ⟨1,eu (fillC E C)⟩]) fun m S' fps=>K m S' (([AeZ],AeZ::AeZ::BD 0 S (S++[some ⟨6,[gc E C n a lo hi]⟩]++[some ⟨1,eu (fillC E C)⟩]))::fps)) :
 TD APg N ((⟨d,.call (.c (.fn (.func AaE) [] [])) args,g,un⟩,slot)::l) m S K :=
 td_share (af:=Abf) hd hg ha rfl rfl rfl rfl rfl rfl rfl rfl
  (counts_tc (K:=fun v S2=>TD APg N l (putM m d v) S2 fun m S' fps=>K m S' (([AeZ],AeZ::AeZ::BD 0 S S2)::fps)) hE hC h)
def addL (C D:List Nat):List Nat:=List.zipWith (·+·) C D
def joinS (E:List Nat) (s t:GS):GS :=
 ⟨addL (fillC E s.C) (fillC E t.C),s.n+t.n,s.a+t.a,if t.a=0 then s.lo else if s.a=0 then t.lo else minF s.lo t.lo,if t.a=0 then s.hi else if s.a=0 then t.hi else maxF s.hi t.hi⟩
theorem join_bad (E F:List Nat) (s t:GS) (hE:∀ x∈E,W64 x) (hF:∀ x∈F,W64 x) (hel:E.length<4294967296) (hfl:F.length<4294967296) (h:eqE E F=false) :
 Ak APg f_gauge_Gauge_Join [gvs E s,gvs F t] (.tuple [gv [] [] 0 0 0 0,.int .i64 4]):=by
 have h1:=eqFunc_ok E F hE hF hel hfl
 rw [h] at h1
 refine Al (af:=c_gauge_Gauge_Join) rfl rfl ?_
 refine tS (tO (tR 4 rfl (tN (tS (tS (tO ?_))))))
 refine tR 4 rfl ?_
 refine tC rfl (by simp [Zv.closed,Aj,Ao,cLm,cLLm]) (h1) (by simp [Zv.noref,Zv.flat,norefL,Aab,nLm,nLLm]) rfl rfl rfl rfl rfl ?_
 refine tR 1 rfl (tN ?_);refine AI (t:=true) rfl (fun _=>?_) (fun h=>nomatch h);refine tS (tO ?_)
 refine tP (Aba rfl rfl) rfl rfl rfl rfl ?_;refine tR 2 rfl (tN ?_)
 exact tT (AS (vs:=[_,_]) rfl ⟨[],rfl⟩)
def pj (C D:List Nat) (i:Nat):List Nat:=(List.range C.length).map fun j=>if j<i then C.getD j 0+D.getD j 0 else C.getD j 0
theorem pj_len (C D:List Nat) (i:Nat):(pj C D i).length=C.length:=by simp [pj]
theorem pj_get (C D:List Nat) (i j:Nat):(pj C D i)[j]?=if j<C.length then some (if j<i then C.getD j 0+D.getD j 0 else C.getD j 0) else none:=by
 unfold pj
 rw [List.getElem?_map]
 split
 ·rename_i h
  rw [List.getElem?_range h];rfl
 ·rename_i h
  rw [List.getElem?_eq_none (by simp;omega)];rfl
theorem get_of {C:List Nat} {j:Nat} (h:j<C.length):C[j]?=some (C.getD j 0):=by rw [List.getD_eq_getElem?_getD,List.getElem?_eq_getElem h];rfl
theorem pj_zero (C D:List Nat):pj C D 0=C:=by
 refine List.ext_getElem? fun j=>?_
 rw [pj_get]
 split
 ·rename_i h
  rw [if_neg (by omega),get_of h]
 ·rename_i h
  rw [List.getElem?_eq_none (by omega)]
theorem pj_all {C D:List Nat} (h:C.length=D.length):pj C D C.length=addL C D:=by
 refine List.ext_getElem? fun j=>?_
 rw [pj_get]
 unfold addL
 rw [List.getElem?_zipWith]
 split
 ·rename_i g
  rw [get_of g,get_of (by omega:j<D.length)]
 ·rename_i g
  rw [List.getElem?_eq_none (by omega)]
theorem pj_set {C D:List Nat} {i:Nat} (h:i<C.length):(pj C D i).set i (C.getD i 0+D.getD i 0)=pj C D (i+1):=by
 refine List.ext_getElem? fun j=>?_
 rw [List.getElem?_set,pj_len,pj_get,pj_get]
 by_cases hj:j<C.length
 ·rw [if_pos hj,if_pos hj]
  by_cases hij:i=j
  ·subst hij
   rw [if_pos rfl,if_pos h,if_pos (Nat.lt_succ_self _)]
  ·rw [if_neg hij]
   by_cases h2:j<i
   ·rw [if_pos h2,if_pos (by omega)]
   ·rw [if_neg h2,if_neg (by omega)]
 ·rw [if_neg hj,if_neg hj]
  split
  ·omega
  ·rfl
theorem pj_getD {C D:List Nat} {i:Nat} (h:i<C.length):(pj C D i).getD i 0=C.getD i 0:=by
 rw [List.getD_eq_getElem?_getD,pj_get,if_pos h,if_neg (by omega)];rfl
theorem fillC_le {E C:List Nat} {a:Nat} (h:∀ x∈C,x≤a) (i:Nat):(fillC E C).getD i 0≤a:=by
 unfold fillC
 rcases Nat.lt_or_ge i C.length with g | g
 ·rw [Atg g,List.getD_eq_getElem?_getD,List.getElem?_eq_getElem g]
  exact h _ (List.getElem_mem g)
 ·rw [List.getD_eq_getElem?_getD,List.getElem?_append_right g,List.getElem?_replicate]
  split<;>simp
theorem frz_gauge5 {S:Ab} {E C:List Nat} {n a lo hi b len:Nat} {full:Bool} (h1:S[b]?=some (some ⟨1,eu C⟩)) (hl:len=C.length) :
 (frz (4+1) (.agg [.imm (en E),.view b 0 len full,u6 n,u6 a,fl lo,fl hi])).run S=some (gv E C n a lo hi,[b]):=by
 have hc:Aj [.imm (en E),.view b 0 len full,u6 n,u6 a,fl lo,fl hi]=false:=by simp [Aj,Zv.closed]
 refine Azz (i:=[b]) hc (Adh (i:=[]) (j:=[b]) (fzO (AmQ E)) ?_)
 exact Adh (i:=[b]) (j:=[]) (Aiz (blk:=⟨1,eu C⟩) h1 (by simpa using hl) (AmM C)) (Adi rfl)
theorem join_tail (E:List Nat) (s t:GS) (lo hi:Nat) (hel:E.length<4294967296) (gs:OkG E s.C s.n s.a s.lo s.hi) (gt:OkG E t.C t.n t.a t.lo t.hi) :
 TC APg (max c_gauge_Gauge_Join.nargs c_gauge_Gauge_Join.N) d_gauge_Gauge_Join_10 [(2,.ptr 0 0 0),(3,.ptr 1 0 0),(4,.ptr 2 0 0),(5,.int .i64 0)] [some ⟨6,[gc E s.C s.n s.a lo hi]⟩,some ⟨6,[gc E t.C t.n t.a t.lo t.hi]⟩,some ⟨6,[[.nils,.nils,.int .u64 0,.int .u64 0,.flt .f64 0,.flt .f64 0]]⟩]
  fun ex m S=>(ex = .normal∨ex = .ret)∧∃ vs ids,Abx m S c_gauge_Gauge_Join.res=some vs∧(frz Az (one vs)).run S=some (.tuple [gv E (addL (fillC E s.C) (fillC E t.C)) (s.n+t.n) (s.a+t.a) lo hi,.int .i64 0],ids):=by
 have h1:=Apz s.n t.n (by have:=gs.on;have:=gt.on;omega)
 have h2:=Apz s.a t.a (by have:=gs.oa;have:=gt.oa;omega)
 have hC:s.C.length≤E.length+1:=by rcases gs.oc with c | c<;>simp [c]
 have hD:t.C.length≤E.length+1:=by rcases gt.oc with c | c<;>simp [c]
 refine tS ?_;refine tD0 rfl ?_;refine dR 4 rfl ?_;refine AF rfl rfl (h1) rfl rfl rfl rfl rfl ?_;refine dR 4 rfl ?_
 refine AF rfl rfl (h2) rfl rfl rfl rfl rfl ?_;refine dR 1 rfl ?_
 refine td_counts (E:=E) (C:=s.C) (n:=s.n) (a:=s.a) (lo:=lo) (hi:=hi) hel hC rfl rfl rfl ?_
 refine dR 6 rfl (dN ?_)
 refine⟨?_,?_⟩
 ·generalize BD 0 _ _=ch
  simp [Aet,Awp,disj,isSh,ur,ub,iu]
  refine⟨fun x hx=>?_,fun x hx=>?_,fun x hx=>?_,fun x hx=>?_,fun x hx=>?_,fun x h7 hx=>?_⟩<;>(rcases x with _ | _ | _ | _ | _ | _ | _ | _ | _ | _ | x<;>first | rfl | omega)
 refine tS (tS (tO (tR 1 rfl ?_)))
 refine AlH (E:=E) (C:=t.C) (n:=t.n) (a:=t.a) (lo:=t.lo) (hi:=t.hi) hel hD rfl rfl rfl ?_
 refine tR 2 rfl (tN ?_)
 have hCl:(fillC E s.C).length=E.length+1:=by simp [fillC];omega
 have hDl:(fillC E t.C).length=E.length+1:=by simp [fillC];omega
 have hCb:∀ i,(fillC E s.C).getD i 0<4294967296:=fun i=>by have:=fillC_le (E:=E) gs.ca i;have:=gs.oa;omega
 have hDb:∀ i,(fillC E t.C).getD i 0<4294967296:=fun i=>by have:=fillC_le (E:=E) gt.ca i;have:=gt.oa;omega
 obtain⟨C,hCe⟩:∃ C,fillC E s.C=C:=⟨_,rfl⟩
 obtain⟨D,hDe⟩:∃ D,fillC E t.C=D:=⟨_,rfl⟩
 rw [hCe] at hCl hCb ⊢
 rw [hDe] at hDl hDb ⊢
 refine tB (lST (σ:=Nat) (fun i=>C.length - i) (fun i=>[(2,.ptr 0 0 0),(4,.ptr 2 0 0),(5,.int .i64 0),(59,.view 6 0 (E.length+1) true),(60,.int .i64 ((E.length+1:Nat):Int)),(61,.int .i64 (i:Int))])
  (fun i S=>i≤C.length∧S=[some ⟨6,[[.imm (en E),.view 4 0 (E.length+1) true,u6 (s.n+t.n),u6 (s.a+t.a),fl lo,fl hi]]⟩,some ⟨6,[gc E t.C t.n t.a t.lo t.hi]⟩,some ⟨6,[[.nils,.nils,.int .u64 0,.int .u64 0,.flt .f64 0,.flt .f64 0]]⟩,
    some ⟨6,[gc E s.C s.n s.a lo hi]⟩,some ⟨1,eu (pj C D i)⟩,some ⟨6,[gc E t.C t.n t.a t.lo t.hi]⟩,some ⟨1,eu D⟩]) 0 (by (repeat' (first | exact wN | refine wC rfl ?_))) ⟨by omega,by rw [pj_zero];rfl⟩ ?_)
 rintro i S ⟨hi',rfl⟩
 refine tS (tO (tR 1 rfl (tN (tS ?_))))
 refine tQ rfl decide_eq_true_iff (fun c=>tK ?_) (fun c=>tX ?_)
 ·have hiC:i<C.length:=by omega
  have hiD:i<D.length:=by omega
  have hp:=pj_len C D i
  have hg:=pj_getD (D:=D) hiC
  have hs:=pj_set (D:=D) hiC
  have b1:=hCb i
  have b2:=hDb i
  refine tS ?_;refine tB ?_;refine tS (tO (tR 1 rfl ?_))
  refine tP (AE rfl rfl (by omega) rfl rfl) rfl rfl rfl rfl ?_;refine tP (AbO 0 rfl rfl (by omega) rfl) rfl rfl rfl rfl ?_
  refine tR 2 rfl (tN (tO (tR 3 rfl ?_)))
  refine tP (AE rfl rfl (by omega) rfl rfl) rfl rfl rfl rfl ?_;refine tP (AbO 0 rfl rfl (by omega) rfl) rfl rfl rfl rfl ?_
  refine tR 1 rfl ?_;refine tP (Ait rfl rfl (AaA (by omega))) rfl rfl rfl rfl ?_
  refine tP (AE rfl rfl (by omega) rfl rfl) rfl rfl rfl rfl ?_
  refine tP (Agg 0 rfl rfl rfl (by omega) ⟨_,rfl⟩ rfl rfl) rfl rfl rfl rfl ?_;refine tN (tO ?_)
  refine tP (oA (b:=1) rfl rfl (by omega)) rfl rfl rfl rfl ?_;refine tR 1 rfl (tN ?_)
  refine⟨i+1,by omega,by (repeat' (first | exact wN | refine wC rfl ?_)),by omega,?_⟩
  rw [hg,hs];rfl
 ·have:i=C.length:=by omega
  subst this
  rw [pj_all (by omega)]
  refine tS (tO (tR 3 rfl (tN ?_)))
  refine tT (AS (vs:=[_,_]) rfl ⟨_,AoX (n:=5) (by simp [Aj,Zv.closed]) (Adh (frz_gauge5 rfl ?_) (Adi rfl))⟩)
  unfold addL
  rw [List.length_zipWith];omega
theorem join_ok (E:List Nat) (s t:GS) (hE:∀ x∈E,W64 x) (hel:E.length<4294967296) (gs:OkG E s.C s.n s.a s.lo s.hi) (gt:OkG E t.C t.n t.a t.lo t.hi) :
 Ak APg f_gauge_Gauge_Join [gvs E s,gvs E t] (.tuple [gvs E (joinS E s t),.int .i64 0]):=by
 have h1:=eqFunc_ok E E hE hE hel hel
 rw [eqE_self] at h1
 unfold joinS
 refine Al (af:=c_gauge_Gauge_Join) rfl rfl ?_
 refine tS (tO (tR 4 rfl (tN ?_)))
 refine tS (tS (tO (tR 4 rfl ?_)))
 refine tC rfl (by simp [Zv.closed,Aj]) h1 (by simp [Zv.flat]) rfl rfl rfl rfl rfl ?_
 refine tR 1 rfl (tN (AI (t:=false) rfl (fun h=>nomatch h) (fun _=>tK ?_)))
 refine tc_cut (σ:=Nat × Nat) (fun _=>[(2,.ptr 0 0 0),(3,.ptr 1 0 0),(4,.ptr 2 0 0),(5,.int .i64 0)])
  (fun p S=>p=((if t.a=0 then s.lo else if s.a=0 then t.lo else minF s.lo t.lo),(if t.a=0 then s.hi else if s.a=0 then t.hi else maxF s.hi t.hi)) ∧
    S=[some ⟨6,[gc E s.C s.n s.a p.1 p.2]⟩,some ⟨6,[gc E t.C t.n t.a t.lo t.hi]⟩,some ⟨6,[[.nils,.nils,.int .u64 0,.int .u64 0,.flt .f64 0,.flt .f64 0]]⟩]) ?_ ?_
 ·refine tB ?_;refine tS (tO (tR 4 rfl (tN ?_)))
  by_cases c1:t.a=0
  ·rw [show ((t.a:Int) == 0)=true from by rw [c1];rfl,if_pos c1,if_pos c1]
   refine AI (t:=true) rfl (fun _=>?_) (fun h=>nomatch h);refine tK ?_
   exact⟨_,by (repeat' (first | exact wN | refine wC rfl ?_)),rfl,rfl⟩
  rw [show ((t.a:Int) == 0)=false from by simp;omega,if_neg c1,if_neg c1]
  refine AI (t:=false) rfl (fun h=>nomatch h) (fun _=>?_);refine tS (tO (tR 4 rfl (tN ?_)))
  by_cases c2:s.a=0
  ·rw [show ((s.a:Int) == 0)=true from by rw [c2];rfl,if_pos c2,if_pos c2]
   refine AI (t:=true) rfl (fun _=>?_) (fun h=>nomatch h);refine tD0 rfl ?_;refine dR 8 rfl (dN ?_);refine⟨rfl,?_⟩
   exact⟨_,by (repeat' (first | exact wN | refine wC rfl ?_)),rfl,rfl⟩
  rw [show ((s.a:Int) == 0)=false from by simp;omega,if_neg c2,if_neg c2]
  have h3:=least_ok s.lo t.lo gs.ol gt.ol
  have h4:=most_ok s.hi t.hi gs.oh gt.oh
  refine AI (t:=false) rfl (fun h=>nomatch h) (fun _=>?_);refine tD0 rfl ?_;refine dR 4 rfl ?_
  refine dP rfl rfl (AZ rfl rfl rfl) ?_
  refine ApI rfl rfl h3 rfl rfl rfl rfl rfl ?_
  refine dR 4 rfl ?_;refine dP rfl rfl (AZ rfl rfl rfl) ?_
  refine ApI rfl rfl h4 rfl rfl rfl rfl rfl ?_
  refine dR 4 rfl (dN ?_);refine⟨rfl,?_⟩
  exact⟨_,by (repeat' (first | exact wN | refine wC rfl ?_)),rfl,rfl⟩
 ·rintro p S ⟨rfl,rfl⟩
  exact join_tail E s t _ _ hel gs gt
end Go.Eng.Ga
namespace Go.Eng.Ga
open Go Go.Eng Ieee
variable [Inhabited GlobT]
theorem addL_len {C D:List Nat} (h:C.length=D.length):(addL C D).length=C.length:=by unfold addL;rw [List.length_zipWith];omega
theorem addL_get {C D:List Nat} (h:C.length=D.length) (i:Nat):(addL C D).getD i 0=C.getD i 0+D.getD i 0:=by
 unfold addL
 rw [List.getD_eq_getElem?_getD,List.getElem?_zipWith]
 by_cases hi:i<C.length
 ·rw [get_of hi,get_of (by omega:i<D.length)];rfl
 ·rw [List.getElem?_eq_none (by omega),List.getD_eq_getElem?_getD,List.getD_eq_getElem?_getD,List.getElem?_eq_none (by omega),List.getElem?_eq_none (by omega)];rfl
theorem list_eq {C D:List Nat} (h:C.length=D.length) (hg:∀ i,i<C.length→C.getD i 0=D.getD i 0):C=D:=by
 refine List.ext_getElem? fun i=>?_
 by_cases hi:i<C.length
 ·rw [get_of hi,get_of (by omega:i<D.length),hg i hi]
 ·rw [List.getElem?_eq_none (by omega),List.getElem?_eq_none (by omega)]
theorem bump_get {C:List Nat} {i:Nat} (h:i<C.length) (j:Nat):(bump C i).getD j 0=C.getD j 0+if i=j then 1 else 0:=by
 unfold bump
 rw [List.getD_eq_getElem?_getD,List.getElem?_set]
 by_cases hij:i=j
 ·subst hij
  rw [if_pos rfl,if_pos h,if_pos rfl];rfl
 ·rw [if_neg hij,if_neg hij,←List.getD_eq_getElem?_getD];rfl
theorem addL_comm (C D:List Nat):addL C D=addL D C:=by
 unfold addL
 rw [List.zipWith_comm]
 congr 1
 funext a b
 exact Nat.add_comm _ _
theorem cnt_app (E l r:List Nat):cnt E (l++r)=(addL (cnt E l).1 (cnt E r).1,(cnt E l).2.1+(cnt E r).2.1,(cnt E l).2.2+(cnt E r).2.2):=by
 have hl:=(AkQ E l).len
 have:∀ i,i≤r.length→cnt E (l++r.take i)=(addL (cnt E l).1 (cnt E (r.take i)).1,(cnt E l).2.1+(cnt E (r.take i)).2.1,(cnt E l).2.2+(cnt E (r.take i)).2.2):=by
  intro i
  induction i with
  | zero =>
    intro _
    rw [List.take_zero,List.append_nil]
    have e:cnt E []=(List.replicate (E.length+1) 0,0,0):=rfl
    rw [e]
    have h2:addL (cnt E l).1 (List.replicate (E.length+1) 0)=(cnt E l).1:=by
     refine list_eq (addL_len (by simp [hl])) fun i _=>?_
     have hz:(List.replicate (E.length+1) 0).getD i 0=0:=by
      rw [List.getD_eq_getElem?_getD,List.getElem?_replicate]
      split<;>simp
     rw [addL_get (by simp [hl]),hz];rfl
    rw [h2];rfl
  | succ i ih =>
    intro hi
    have h1:=ih (by omega)
    have hr:=(AkQ E (r.take i)).len
    have e:l++r.take (i+1)=(l++r.take i)++[r.getD i 0]:=by rw [Alf (by omega),List.append_assoc]
    rw [e,cnt_snoc,h1,ArM E (by omega)]
    generalize cnt E (r.take i)=c at *
    obtain⟨D,n,a⟩:=c
    dsimp only at hr ⊢
    unfold stp
    split
    ·rfl
    ·dsimp only
     have hs:=ApL E (r.getD i 0)
     have hal:(addL (cnt E l).1 D).length=E.length+1:=by rw [addL_len (by omega),hl]
     have h3:bump (addL (cnt E l).1 D) (stepN E (r.getD i 0))=addL (cnt E l).1 (bump D (stepN E (r.getD i 0))):=by
      refine list_eq (by rw [AzY,addL_len (by omega),addL_len (by rw [AzY];omega)]) fun j _=>?_
      rw [bump_get (by omega),addL_get (by omega),addL_get (by rw [AzY];omega),bump_get (by omega)]
      omega
     rw [h3];rfl
 have h:=this r.length (Nat.le_refl _)
 rwa [List.take_length] at h
def MinOf (l:List Nat) (v:Nat):Prop:=v∈l∧fN v=false∧∀ x∈l,fN x=false→fT v≤fT x
def MaxOf (l:List Nat) (v:Nat):Prop:=v∈l∧fN v=false∧∀ x∈l,fN x=false→fT x≤fT v
theorem minF_le (a b:Nat):fT (minF a b)≤fT a∧fT (minF a b)≤fT b:=by unfold minF;split<;>omega
theorem maxF_le (a b:Nat):fT a≤fT (maxF a b)∧fT b≤fT (maxF a b):=by unfold maxF;split<;>omega
theorem minF_or (a b:Nat):minF a b=a∨minF a b=b:=by unfold minF;split<;>simp
theorem maxF_or (a b:Nat):maxF a b=a∨maxF a b=b:=by unfold maxF;split<;>simp
theorem MinOf.app {l r:List Nat} {u v:Nat} (h:MinOf l u) (h':MinOf r v):MinOf (l++r) (minF u v):=by
 obtain⟨h1,h2,h3⟩:=h
 obtain⟨g1,g2,g3⟩:=h'
 have hm:=minF_le u v
 refine⟨?_,?_,fun x hx hn=>?_⟩
 ·rcases minF_or u v with e | e<;>rw [e]<;>simp [h1,g1]
 ·rcases minF_or u v with e | e<;>rw [e]<;>assumption
 ·rcases List.mem_append.1 hx with k | k
  ·have:=h3 x k hn;omega
  ·have:=g3 x k hn;omega
theorem MaxOf.app {l r:List Nat} {u v:Nat} (h:MaxOf l u) (h':MaxOf r v):MaxOf (l++r) (maxF u v):=by
 obtain⟨h1,h2,h3⟩:=h
 obtain⟨g1,g2,g3⟩:=h'
 have hm:=maxF_le u v
 refine⟨?_,?_,fun x hx hn=>?_⟩
 ·rcases maxF_or u v with e | e<;>rw [e]<;>simp [h1,g1]
 ·rcases maxF_or u v with e | e<;>rw [e]<;>assumption
 ·rcases List.mem_append.1 hx with k | k
  ·have:=h3 x k hn;omega
  ·have:=g3 x k hn;omega
theorem MinOf.l {l r:List Nat} {u:Nat} (h:MinOf l u) (hr:∀ x∈r,fN x=true):MinOf (l++r) u :=
 ⟨List.mem_append_left _ h.1,h.2.1,fun x hx hn=>by
   rcases List.mem_append.1 hx with k | k
   ·exact h.2.2 x k hn
   ·rw [hr x k] at hn;cases hn⟩
theorem MaxOf.l {l r:List Nat} {u:Nat} (h:MaxOf l u) (hr:∀ x∈r,fN x=true):MaxOf (l++r) u :=
 ⟨List.mem_append_left _ h.1,h.2.1,fun x hx hn=>by
   rcases List.mem_append.1 hx with k | k
   ·exact h.2.2 x k hn
   ·rw [hr x k] at hn;cases hn⟩
theorem MinOf.same {l:List Nat} {u v:Nat} (h:MinOf l u) (h':MinOf l v):sameF u v=true:=by
 have h1:=h.2.2 v h'.1 h'.2.1
 have h2:=h'.2.2 u h.1 h.2.1
 exact decide_eq_true (by omega)
theorem MaxOf.same {l:List Nat} {u v:Nat} (h:MaxOf l u) (h':MaxOf l v):sameF u v=true:=by
 have h1:=h.2.2 v h'.1 h'.2.1
 have h2:=h'.2.2 u h.1 h.2.1
 exact decide_eq_true (by omega)
theorem MinOf.of {l r:List Nat} {u:Nat} (h:MinOf l u) (hm:∀ x,x∈l↔x∈r):MinOf r u:=⟨(hm u).1 h.1,h.2.1,fun x hx=>h.2.2 x ((hm x).2 hx)⟩
theorem MaxOf.of {l r:List Nat} {u:Nat} (h:MaxOf l u) (hm:∀ x,x∈l↔x∈r):MaxOf r u:=⟨(hm u).1 h.1,h.2.1,fun x hx=>h.2.2 x ((hm x).2 hx)⟩
theorem one_min {x:Nat} (h:fN x=false):MinOf [x] x∧MaxOf [x] x :=
 ⟨⟨List.mem_singleton.2 rfl,h,fun y hy _=>by rw [List.mem_singleton.1 hy];exact Int.le_refl _⟩,⟨List.mem_singleton.2 rfl,h,fun y hy _=>by rw [List.mem_singleton.1 hy];exact Int.le_refl _⟩⟩
theorem spL_spec (l:List Nat):if (spL l).b=true then MinOf l (spL l).lo∧MaxOf l (spL l).hi else ∀ x∈l,fN x=true:=by
 have:∀ i,i≤l.length→if (spL (l.take i)).b=true then MinOf (l.take i) (spL (l.take i)).lo∧MaxOf (l.take i) (spL (l.take i)).hi else ∀ x∈l.take i,fN x=true:=by
  intro i
  induction i with
  | zero=>intro _;rw [List.take_zero];simp [spL]
  | succ i ih =>
    intro hi
    have h1:=ih (by omega)
    rw [ApO (by omega),Alf (by omega)]
    generalize spL (l.take i)=q at *
    generalize l.take i=r at *
    generalize l.getD i 0=x at *
    obtain⟨lo,hh,b⟩:=q
    unfold spS
    cases hn:fN x
    ·simp only [Bool.false_eq_true,if_false,if_true]
     cases b
     ·simp only [Bool.false_eq_true,if_false] at h1 ⊢
      refine⟨⟨by simp,hn,fun y hy hy2=>?_⟩,⟨by simp,hn,fun y hy hy2=>?_⟩⟩
      ·rcases List.mem_append.1 hy with k | k
       ·rw [h1 y k] at hy2;cases hy2
       ·rw [List.mem_singleton.1 k];exact Int.le_refl _
      ·rcases List.mem_append.1 hy with k | k
       ·rw [h1 y k] at hy2;cases hy2
       ·rw [List.mem_singleton.1 k];exact Int.le_refl _
     ·simp only [if_true] at h1 ⊢
      exact⟨h1.1.app (one_min hn).1,h1.2.app (one_min hn).2⟩
    ·simp only [if_true]
     cases b
     ·simp only [Bool.false_eq_true,if_false] at h1 ⊢
      intro y hy
      rcases List.mem_append.1 hy with k | k
      ·exact h1 y k
      ·rw [List.mem_singleton.1 k];exact hn
     ·simp only [if_true] at h1 ⊢
      have hr:∀ y∈[x],fN y=true:=fun y hy=>by rw [List.mem_singleton.1 hy];exact hn
      exact⟨h1.1.l hr,h1.2.l hr⟩
 have h:=this l.length (Nat.le_refl _)
 rwa [List.take_length] at h
theorem gOf_spec (E l:List Nat):((gOf E l).a≠0→MinOf l (gOf E l).lo∧MaxOf l (gOf E l).hi)∧((gOf E l).a=0→∀ x∈l,fN x=true):=by
 obtain⟨h1,h2⟩:=gOf_sp E l
 have h3:=spL_spec l
 refine⟨fun h=>?_,fun h=>?_⟩
 ·rw [decide_eq_true h] at h1
  rw [if_pos h1] at h3
  rw [(h2 h).1,(h2 h).2]
  exact h3
 ·rw [decide_eq_false (by omega)] at h1
  rw [if_neg (by rw [h1];simp)] at h3
  exact h3
theorem join_is (E:List Nat) {l r w:List Nat} (hl:∀ x∈l,W64 x) (hr:∀ x∈r,W64 x) (hc:cnt E w=cnt E (l++r)) (hm:∀ x,x∈l++r↔x∈w):IsG E w (joinS E (gOf E l) (gOf E r)):=by
 have g1:=gOf_ok E hl
 have g2:=gOf_ok E hr
 obtain⟨s1,z1⟩:=gOf_spec E l
 obtain⟨s2,z2⟩:=gOf_spec E r
 obtain⟨b1,b2⟩:=gOf_sp E w
 have hk1:=(AkQ E l).len
 have hk2:=(AkQ E r).len
 have g3:=gOf_ok E (l:=w) (fun x hx=>by
  rcases List.mem_append.1 ((hm x).2 hx) with k | k
  ·exact hl x k
  ·exact hr x k)
 have s3:=(gOf_spec E w).1
 rw [cnt_app] at hc
 have hal:(addL (cnt E l).1 (cnt E r).1).length=E.length+1:=by rw [addL_len (by omega),hk1]
 have ha:(gOf E w).a=(gOf E l).a+(gOf E r).a:=by rw [g3.c3,hc,g1.c3,g2.c3]
 have e1:(joinS E (gOf E l) (gOf E r)).C=addL (cnt E l).1 (cnt E r).1:=by unfold joinS;rw [g1.c1,g2.c1]
 have hlo:(gOf E l).a+(gOf E r).a≠0→MinOf (l++r) (joinS E (gOf E l) (gOf E r)).lo∧MaxOf (l++r) (joinS E (gOf E l) (gOf E r)).hi:=by
  intro h
  unfold joinS
  dsimp only
  by_cases c2:(gOf E r).a=0
  ·rw [if_pos c2,if_pos c2]
   obtain⟨m1,m2⟩:=s1 (by omega)
   exact⟨m1.l (z2 c2),m2.l (z2 c2)⟩
  ·rw [if_neg c2,if_neg c2]
   obtain⟨m3,m4⟩:=s2 c2
   by_cases c1:(gOf E l).a=0
   ·rw [if_pos c1,if_pos c1]
    have hs:∀ x,x∈r++l↔x∈l++r:=fun x=>by simp [or_comm]
    exact⟨(m3.l (z1 c1)).of hs,(m4.l (z1 c1)).of hs⟩
   ·rw [if_neg c1,if_neg c1]
    obtain⟨m1,m2⟩:=s1 c1
    exact⟨m1.app m3,m2.app m4⟩
 have hw:W64 (joinS E (gOf E l) (gOf E r)).lo∧W64 (joinS E (gOf E l) (gOf E r)).hi:=by
  unfold joinS
  dsimp only
  refine⟨?_,?_⟩
  ·split
   ·exact g1.ol
   ·split
    ·exact g2.ol
    ·exact minF_w g1.ol g2.ol
  ·split
   ·exact g1.oh
   ·split
    ·exact g2.oh
    ·exact maxF_w g1.oh g2.oh
 refine⟨?_,?_,?_,?_,?_,hw.1,hw.2,fun h=>?_,fun h=>?_⟩
 ·rw [e1,Bbi hal,hc]
 ·show (gOf E l).n+(gOf E r).n=_
  rw [hc,g1.c2,g2.c2]
 ·show (gOf E l).a+(gOf E r).a=_
  rw [hc,g1.c3,g2.c3]
 ·rw [e1,hal];exact Nat.le_refl _
 ·rw [b1,ha];rfl
 ·have h:(gOf E l).a+(gOf E r).a≠0:=h
  rw [←(b2 (by omega)).1]
  exact((hlo h).1.of hm).same (s3 (by omega)).1
 ·have h:(gOf E l).a+(gOf E r).a≠0:=h
  rw [←(b2 (by omega)).2]
  exact((hlo h).2.of hm).same (s3 (by omega)).2
theorem cnt_swap (E l r:List Nat):cnt E (l++r)=cnt E (r++l):=by
 rw [cnt_app,cnt_app,addL_comm,Nat.add_comm (cnt E l).2.1,Nat.add_comm (cnt E l).2.2]
end Go.Eng.Ga
namespace Go.Eng.Ga
open Go Go.Eng Ieee
variable [Inhabited GlobT]
attribute [local irreducible] OpR TL TD TC TS Ak
theorem rowOk_en (E:List Nat) (i:Nat):AkY 1 (Option.map (fun w=>[fl w]) E[i]?)=true:=by
 cases E[i]?<;>rfl
theorem o_from {AP:Aaa} {m:FM} {slot:Nat} {S:Ab} {x a:Ag} {k:IntKind} {E:List Nat} {l:Nat} (hx:lo m x=some (.imm (en E))) (ha:lo m a=some (.int k (l:Int))) (hl:l≤E.length) :
 OpR AP m slot S (.slice 1 x (some a) none none) (.imm (en (E.drop l))) S ([],[]):=by
 have h2:=rowOk_en E l
 refine Adv fun fr hfr n=>?_
 simp [Av,sem,hfr.opd hx,hfr.opd ha,Bc]
 rw [if_pos hl]
 dsimp only
 rw [h2]
 simp [RM.run,List.take_of_length_le,List.map_drop]
theorem o_upto {AP:Aaa} {m:FM} {slot:Nat} {S:Ab} {x a:Ag} {k:IntKind} {E:List Nat} {l:Nat} (hx:lo m x=some (.imm (en E))) (ha:lo m a=some (.int k (l:Int))) (hl:l≤E.length) :
 OpR AP m slot S (.slice 1 x none (some a) none) (.imm (en (E.take l))) S ([],[]):=by
 have h2:=rowOk_en E 0
 refine Adv fun fr hfr n=>?_
 simp [Av,sem,hfr.opd hx,hfr.opd ha,Bc]
 rw [if_pos hl]
 dsimp only
 rw [h2]
 simp [RM.run,List.map_take]
theorem eqE_eq {E F:List Nat} (hE:OkE E) (hF:OkE F) (h:eqE E F=true):E=F:=by
 unfold eqE at h
 simp only [Bool.and_eq_true,decide_eq_true_iff,List.all_eq_true,List.mem_range] at h
 obtain⟨h1,h2⟩:=h
 refine list_eq h1 fun i hi=>?_
 have h3:fT (E.getD i 0)=fT (F.getD i 0):=of_decide_eq_true (h2 i hi)
 have n1:fN (E.getD i 0)=false:=hE.n _ (by rw [List.getD_eq_getElem?_getD,List.getElem?_eq_getElem hi];exact List.getElem_mem hi)
 have hi2:i<F.length:=by omega
 have n2:fN (F.getD i 0)=false:=hF.n _ (by rw [List.getD_eq_getElem?_getD,List.getElem?_eq_getElem hi2];exact List.getElem_mem hi2)
 have w1:=hE.g i
 have w2:=hF.g i
 generalize E.getD i 0=x at *
 generalize F.getD i 0=y at *
 have d1:x=(if fS x then 9223372036854775808 else 0)+fR x:=by
  unfold fS fR
  unfold W64 at w1
  split
  ·rename_i c;simp at c;omega
  ·rename_i c;simp at c;omega
 have d2:y=(if fS y then 9223372036854775808 else 0)+fR y:=by
  unfold fS fR
  unfold W64 at w2
  split
  ·rename_i c;simp at c;omega
  ·rename_i c;simp at c;omega
 unfold fT at h3
 rw [n1,n2] at h3
 simp only [Bool.false_eq_true,if_false] at h3
 rw [d1,d2]
 generalize fS x=a at h3 ⊢
 generalize fS y=b at h3 ⊢
 cases a<;>cases b<;>simp only [Bool.false_eq_true,if_false,if_true] at h3 ⊢<;>omega
theorem joins_law (E F l:List Nat) (at_:Nat) (hE:∀ x∈E,W64 x) (hF:∀ x∈F,W64 x) (hL:∀ x∈l,W64 x) (hat:at_<65536):Ak APg f_l30_GaugeJoins [.imm (en E),.imm (en F),.imm (en l),.int .u16 (at_:Int)] (.bool true):=by
 have hle:(en E).length=E.length:=List.length_map _
 have hlf:(en F).length=F.length:=List.length_map _
 have hll':(en l).length=l.length:=List.length_map _
 refine Al (af:=c_l30_GaugeJoins) rfl rfl ?_
 refine tS (tO (tR 1 rfl (tN (tS (tS (tO ?_))))))
 refine tR 2 rfl (tN ?_);refine AI (t:=false) rfl (fun h=>nomatch h) (fun _=>?_);refine tK (tS ?_)
 refine tS (tO (tR 4 rfl ?_))
 by_cases c1:20<E.length
 ·rw [show decide (((en E).length:Int)>20)=true from decide_eq_true (by omega)]
  refine tR 19 rfl (tN ?_);refine AI (t:=true) rfl (fun _=>?_) (fun h=>nomatch h);refine tS (tO ?_)
  refine tR 1 rfl (tN ?_);exact tT (AS rfl ⟨_,fzO rfl⟩)
 rw [show decide (((en E).length:Int)>20)=false from decide_eq_false (by omega)]
 refine tR 5 rfl ?_
 by_cases c2:20<F.length
 ·rw [show decide (((en F).length:Int)>20)=true from decide_eq_true (by omega)]
  refine tR 14 rfl (tN ?_);refine AI (t:=true) rfl (fun _=>?_) (fun h=>nomatch h);refine tS (tO ?_)
  refine tR 1 rfl (tN ?_);exact tT (AS rfl ⟨_,fzO rfl⟩)
 rw [show decide (((en F).length:Int)>20)=false from decide_eq_false (by omega)]
 refine tR 5 rfl ?_
 by_cases c3:200<l.length
 ·rw [show decide (((en l).length:Int)>200)=true from decide_eq_true (by omega)]
  refine tR 9 rfl (tN ?_);refine AI (t:=true) rfl (fun _=>?_) (fun h=>nomatch h);refine tS (tO ?_)
  refine tR 1 rfl (tN ?_);exact tT (AS rfl ⟨_,fzO rfl⟩)
 rw [show decide (((en l).length:Int)>200)=false from decide_eq_false (by omega)]
 have hrE:=rNew_ok E hE (by omega)
 have hrF:=rNew_ok F hF (by omega)
 refine tR 1 rfl ?_
 refine tC rfl (by simp [Zv.closed,Aj,Ao,cLm,cLLm]) (hrE) (by simp [Zv.noref,Zv.flat,norefL,Aab,nLm,nLLm]) rfl rfl rfl rfl rfl ?_
 refine tR 3 rfl ?_
 by_cases he:errN E=0
 rotate_left
 ·rw [show ((errN E:Int) != 0)=true from by simp;omega]
  refine tR 4 rfl (tN ?_);refine AI (t:=true) rfl (fun _=>?_) (fun h=>nomatch h);refine tS (tO ?_)
  refine tR 1 rfl (tN ?_);exact tT (AS rfl ⟨_,fzO rfl⟩)
 rw [show ((errN E:Int) != 0)=false from by rw [he];rfl]
 refine tR 1 rfl ?_
 refine tC rfl (by simp [Zv.closed,Aj,Ao,cLm,cLLm]) (hrF) (by simp [Zv.noref,Zv.flat,norefL,Aab,nLm,nLLm]) rfl rfl rfl rfl rfl ?_
 refine tR 2 rfl (tN ?_)
 by_cases hf:errN F=0
 rotate_left
 ·rw [show ((errN F:Int) != 0)=true from by simp;omega]
  refine AI (t:=true) rfl (fun _=>?_) (fun h=>nomatch h);refine tS (tO (tR 1 rfl (tN ?_)))
  exact tT (AS rfl ⟨_,fzO rfl⟩)
 rw [show ((errN F:Int) != 0)=false from by rw [hf];rfl]
 refine AI (t:=false) rfl (fun h=>nomatch h) (fun _=>?_);refine tK (tS (tO (tR 1 rfl ?_)))
 refine tP (Afv rfl (AcV (by omega))) rfl rfl rfl rfl ?_;refine tR 2 rfl ?_
 refine tP (oA (b:=1) rfl rfl (by omega)) rfl rfl rfl rfl ?_;refine tP (Abh rfl rfl (by omega)) rfl rfl rfl rfl ?_
 refine tR 1 rfl (tN (tS (tO (tR 3 rfl ?_))))
 obtain⟨hokE,helE⟩:=errN_ok hE he
 obtain⟨hokF,helF⟩:=errN_ok hF hf
 have hnE:=nNew_ok E hE (by omega) he
 have hnF:=nNew_ok F hF (by omega) hf
 rw [hll']
 have hk:at_%(l.length+1)≤l.length:=Nat.le_of_lt_succ (Nat.mod_lt _ (Nat.succ_pos _))
 generalize at_%(l.length+1)=k at hk ⊢
 have hLt:∀ x∈l.take k,W64 x:=fun x hx=>hL x (List.mem_of_mem_take hx)
 have hLd:∀ x∈l.drop k,W64 x:=fun x hx=>hL x (List.mem_of_mem_drop hx)
 have lt:(l.take k).length≤200:=by rw [List.length_take];omega
 have ld:(l.drop k).length≤200:=by rw [List.length_drop];omega
 have o1:=of_gen E E (l.take k) 0 (by omega) hLt hokE (by omega) hnE
 have o2:=of_gen E E (l.drop k) 0 (by omega) hLd hokE (by omega) hnE
 have o3:=of_gen F F l 0 (by omega) hL hokF (by omega) hnF
 have ga:=OkG.of hokE (by omega) (gOf_ok E hLt) (AkQ E (l.take k)) (by omega)
 have gb:=OkG.of hokE (by omega) (gOf_ok E hLd) (AkQ E (l.drop k)) (by omega)
 have gc':=OkG.of hokF (by omega) (gOf_ok F hL) (AkQ F l) (by omega)
 have j1:=join_ok E _ _ hE (by omega) ga gb
 have j2:=join_ok E _ _ hE (by omega) gb ga
 have htd:l.take k++l.drop k=l:=List.take_append_drop k l
 have i1:=is_ok E l hE hL (by omega) (by omega) _ (join_is E hLt hLd (w:=l) (by rw [htd]) (fun x=>by rw [htd]))
 have i2:=is_ok E l hE hL (by omega) (by omega) _ (join_is E hLd hLt (w:=l) (by rw [cnt_swap,htd]) (fun x=>by rw [List.mem_append,or_comm,←List.mem_append,htd]))
 have i3:=is_ok E (l.take k) hE hLt (by omega) (by omega) _ (gOf_is E hLt)
 have hef:=eqFunc_ok E F hE hF (by omega) (by omega)
 have j3:∃ g:GS,∃F',∃n:Nat,Ak APg f_gauge_Gauge_Join [gvs E (gOf E (l.take k)),gvs F (gOf F l)] (.tuple [gvs F' g,.int .i64 (n:Int)])∧((n:Int) == 0)=eqE E F:=by
  cases hq:eqE E F
  ·exact⟨⟨[],0,0,0,0⟩,[],4,join_bad E F _ _ hE hF (by omega) (by omega) hq,rfl⟩
  ·have:=eqE_eq hokE hokF hq
   subst this
   exact⟨_,E,0,join_ok E _ _ hE (by omega) ga gc',rfl⟩
 obtain⟨g3,F',n3,j3,q3⟩:=j3
 have u1:∀ {m:FM} {slot:Nat} {S:Ab} {x a:Ag},lo m x=some (.imm (en l))→lo m a=some (.int .i64 (k:Int))→OpR APg m slot S (.slice 1 x none (some a) none) (.imm (en (l.take k))) S ([],[]):=fun h h'=>o_upto h h' hk
 have u2:∀ {m:FM} {slot:Nat} {S:Ab} {x a:Ag},lo m x=some (.imm (en l))→lo m a=some (.int .i64 (k:Int))→OpR APg m slot S (.slice 1 x (some a) none none) (.imm (en (l.drop k))) S ([],[]):=fun h h'=>o_from h h' hk
 clear htd hLt hLd lt ld
 generalize l.take k=A at *
 generalize l.drop k=B at *
 refine tP (u1 rfl rfl) rfl rfl rfl rfl ?_
 refine tC rfl (by simp [Zv.closed,Aj,Ao,cLm,cLLm]) (o1) (by simp [Zv.noref,Zv.flat,norefL,Aab,nLm,nLLm]) rfl rfl rfl rfl rfl ?_
 refine tR 6 rfl (tN (tS (tO (tR 3 rfl ?_))))
 refine tP (u2 rfl rfl) rfl rfl rfl rfl ?_
 refine tC rfl (by simp [Zv.closed,Aj,Ao,cLm,cLLm]) (o2) (by simp [Zv.noref,Zv.flat,norefL,Aab,nLm,nLLm]) rfl rfl rfl rfl rfl ?_
 refine tR 6 rfl (tN (tS (tO (tR 2 rfl ?_))))
 refine tC rfl (by simp [Zv.closed,Aj,Ao,cLm,cLLm]) (o3) (by simp [Zv.noref,Zv.flat,norefL,Aab,nLm,nLLm]) rfl rfl rfl rfl rfl ?_
 refine tR 6 rfl (tN (tS (tO (tR 2 rfl ?_))))
 refine tC rfl (by simp [Zv.closed,Aj,Ao,cLm,cLLm]) (j1) (by simp [Zv.noref,Zv.flat,norefL,Aab,nLm,nLLm]) rfl rfl rfl rfl rfl ?_
 refine tR 6 rfl (tN (tS (tO (tR 2 rfl ?_))))
 refine tC rfl (by simp [Zv.closed,Aj,Ao,cLm,cLLm]) (j2) (by simp [Zv.noref,Zv.flat,norefL,Aab,nLm,nLLm]) rfl rfl rfl rfl rfl ?_
 refine tR 6 rfl (tN (tS (tO (tR 2 rfl ?_))))
 refine tC rfl (by simp [Zv.closed,Aj,Ao,cLm,cLLm]) (j3) (by simp [Zv.noref,Zv.flat,norefL,Aab,nLm,nLLm]) rfl rfl rfl rfl rfl ?_
 refine tR 6 rfl (tN (tS ?_));refine AfW ?_;refine Am ?_;refine tR 1 rfl (tN ?_)
 refine Am ?_;refine tR 1 rfl (tN ?_);refine Am ?_;refine tR 1 rfl (tN ?_);refine Am ?_
 refine tR 1 rfl (tN ?_);refine Am ?_;refine tR 1 rfl (tN ?_);refine Am ?_;refine tR 1 rfl ?_
 refine tN ?_;refine Am ?_;refine tR 1 rfl (tN ?_);refine AV rfl ?_;refine dR 3 rfl (dN ?_)
 refine⟨rfl,?_⟩;refine Am ?_
 refine tC rfl (by simp [Zv.closed,Aj,Ao,cLm,cLLm]) (i1) (by simp [Zv.noref,Zv.flat,norefL,Aab,nLm,nLLm]) rfl rfl rfl rfl rfl ?_
 refine tN ?_;refine Am ?_;refine tR 1 rfl (tN ?_);refine Am ?_;refine tR 1 rfl (tN ?_)
 refine AV rfl ?_;refine dR 3 rfl (dN ?_);refine⟨rfl,?_⟩;refine Am ?_
 refine tC rfl (by simp [Zv.closed,Aj,Ao,cLm,cLLm]) (i2) (by simp [Zv.noref,Zv.flat,norefL,Aab,nLm,nLLm]) rfl rfl rfl rfl rfl ?_
 refine tN ?_;refine Am ?_;refine tR 1 rfl (tN ?_);refine Am ?_;refine tR 1 rfl (tN ?_)
 refine AV rfl ?_;refine dR 4 rfl ?_
 refine dP rfl rfl (u1 rfl rfl) ?_
 refine dN ?_;refine⟨rfl,?_⟩;refine Am ?_
 refine tC rfl (by simp [Zv.closed,Aj,Ao,cLm,cLLm]) (i3) (by simp [Zv.noref,Zv.flat,norefL,Aab,nLm,nLLm]) rfl rfl rfl rfl rfl ?_
 refine tN ?_;refine Am ?_;refine tR 1 rfl (tN ?_);refine Am ?_;refine tR 1 rfl (tN ?_)
 refine AV rfl ?_;refine dR 4 rfl ?_
 rw [q3]
 refine AF rfl (by simp [Zv.closed,Aj,Ao,cLm,cLLm]) (hef) (by simp [Zv.noref,Zv.flat,norefL,Aab,nLm,nLLm]) rfl rfl rfl rfl ?_
 refine dN ?_;refine⟨rfl,?_⟩;refine Am ?_;refine tR 1 rfl (tN ?_);refine Am ?_;refine tR 1 rfl ?_
 refine tN ?_;refine Am ?_;refine tR 1 rfl (tN ?_);refine Aos ?_
 rw [if_neg Bool.false_ne_true,beq_self_eq_true (eqE E F)]
 exact tT (AS rfl ⟨_,fzO rfl⟩)
end Go.Eng.Ga
namespace Go.Eng.Ga
open Go Go.Eng Go.RowKit Go.ChangeShapes Go.WideShapes
variable [Inhabited GlobT]
theorem words_of:∀ (rows:List (List Zv)),(∀ r∈rows,AhL [.flt .f64] r)→∃ E:List Nat,rows=E.map (fun w=>[fl w])∧∀ x∈E,W64 x
 | [],_=>⟨[],rfl,fun x h=>by cases h⟩
 | r::rows,h=>by
   obtain⟨E,rfl,hE⟩:=words_of rows fun r hr=>h r (List.mem_cons_of_mem _ hr)
   have h0:=h r (List.mem_cons_self ..)
   simp only [AhL,ShpA] at h0
   obtain⟨_,_,rfl,⟨w,rfl,hw⟩,rfl⟩:=h0
   refine⟨w::E,rfl,fun x hx=>?_⟩
   rcases List.mem_cons.1 hx with rfl | hx
   ·exact of_decide_eq_true hw
   ·exact hE x hx
end Go.Eng.Ga
