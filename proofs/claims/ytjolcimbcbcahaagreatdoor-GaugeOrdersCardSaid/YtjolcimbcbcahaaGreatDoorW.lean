/- The laws' functions are walked: what each answers; no condition. -/
import Derived.Test.YtjolcimbcbcahaaGreatDoorC1
import Derived.Test.YtjolcimbcbcahaaGreatDoorE6
import Derived.Test.YtjolcimbcbcahaaGreatDoorX
import Derived.Test.YtjolcimbcbcahaaGreatDoorV
import Derived.KernelRfl
import Derived.Test.YtjolcimbcbcahaaGreatDoorE4
import Derived.Laws.Cover2
set_option linter.unusedSectionVars false
set_option linter.unusedVariables false
set_option linter.unusedSimpArgs false
set_option linter.unnecessarySimpa false
namespace Go.Eng.Ga
abbrev Och:Nat:=4
abbrev AtL:Nat:=13
abbrev Occ:Nat:=19
abbrev Ocd:Nat:=20
abbrev AzF:Nat:=14
abbrev AdK:Nat:=17
abbrev AcO:Nat:=22
abbrev AaP:Nat:=21
abbrev AdL:Nat:=23
abbrev Adk:Nat:=16
abbrev Abo:Nat:=24
abbrev Aan:Nat:=18
abbrev AmF:Nat:=73
abbrev Oce:Nat:=79
abbrev Adj:Nat:=28
abbrev Abd:Nat:=68
abbrev AbB:Nat:=70
abbrev AaE:Nat:=74
abbrev AeH:Nat:=77
abbrev Aes:Nat:=76
abbrev AcA:Nat:=78
abbrev Ajx:Nat:=140
abbrev AdH:Nat:=84
abbrev Aae:Nat:=85
abbrev Aju:Nat:=82
abbrev AkK:Nat:=80
abbrev AmB:Nat:=81
abbrev AdJ:Nat:=138
abbrev Acz:Nat:=31
abbrev AgE:Nat:=142
abbrev Adl:Nat:=141
abbrev Abq:Nat:=143
abbrev AaC:Nat:=144
abbrev AaD:Nat:=145
abbrev Aag:Nat:=204
abbrev Bbl:Nat:=59
abbrev AwI:Nat:=12
abbrev AaO:Nat:=136
abbrev AdI:Nat:=137
end Go.Eng.Ga
namespace Go.Eng.Ga
open Go Go.Eng
def Odo1:Ac := .seq (.ops [mv 26 0,i1 27 (.len false (.t 26)),i1 28 (.bin .gtr (.t 27) (k6 20)),mv 29 28,ig 30 (.move (.t 1)) 29 false,ig 31 (.len false (.t 30)) 29 false,ig 32 (.bin .gtr (.t 31) (k6 100)) 29 false,i1 33 (.pick (.t 29) (.c (.bool true)) (.t 32)),mv 34 33,ig 35 (.move (.t 0)) 34 false,ig 36 (cf AtL [(.t 35)]) 34 false,ig 37 (.bin .neq (.t 36) (k6 0)) 34 false,i1 38 (.pick (.t 34) (.c (.bool true)) (.t 37))]) (.cond (.t 38) (.seq (.ops [i1 8 (.move (.c (.bool true)))]) (.ret)) (.skip))
def Odo2:Ac := .seq (.drawS [[i1 77 (.load true 6 (.t 11)),i1 78 (cf AcO [(.t 77)]),iu 79 (.load true 6 (.t 13)) [0,1]],[i1 80 (cf AcO [(.t 79)])],[i1 81 (cf AaP [(.t 78),(.t 80)])],[i1 82 (.un .not (.t 81))],[mv 83 82],[ig 84 (.load true 6 (.t 11)) 83 false,ig 85 (cf AdL [(.t 84)]) 83 false,⟨(some 86),(.load true 6 (.t 13)),some (83,false),[7,8]⟩],[ig 87 (cf AdL [(.t 86)]) 83 false],[ig 88 (.bin .neq (.t 85) (.t 87)) 83 false],[i1 89 (.pick (.t 83) (.c (.bool true)) (.t 88))],[mv 90 89],[ig 91 (.load true 6 (.t 11)) 90 false,ig 92 (cf Adk [(.t 91)]) 90 false,⟨(some 93),(.load true 6 (.t 13)),some (90,false),[14,15]⟩],[ig 94 (cf Adk [(.t 93)]) 90 false],[ig 95 (.bin .neq (.t 92) (.t 94)) 90 false],[i1 96 (.pick (.t 90) (.c (.bool true)) (.t 95))],[mv 97 96],[ig 98 (.move (.t 15)) 97 false,⟨(some 99),(.move (.t 17)),some (97,false),[21]⟩],[ig 100 (cf Abo [(.t 98),(.t 99)]) 97 false],[ig 101 (.un .not (.t 100)) 97 false],[i1 102 (.pick (.t 97) (.c (.bool true)) (.t 101))],[mv 103 102],[ig 104 (.move (.t 16)) 103 false,⟨(some 105),(.move (.t 18)),some (103,false),[27]⟩],[ig 106 (cf Abo [(.t 104),(.t 105)]) 103 false],[ig 107 (.un .not (.t 106)) 103 false],[i1 108 (.pick (.t 103) (.c (.bool true)) (.t 107))]]) (.cond (.t 108) (.seq (.ops [i1 8 (.move (.c (.bool false)))]) (.ret)) (.skip))
def Odo3:Ac := .seq (.ops [mv 116 3,mv 117 3,i1 118 (.bin .neq (.t 116) (.t 117))]) (.cond (.t 118) (.seq (.ops [mv 119 20,i1 120 (.bin .eql (.t 119) (k6 21)),mv 8 120]) (.ret)) (.skip))
def Odo4:Ac := .seq (.ops [mv 127 23,mv 128 23,i1 129 (.bin .eql (.t 127) (.t 128)),mv 130 129,ig 131 (.move (.t 23)) 130 true,ig 132 (.move (.t 3)) 130 true,ig 133 (cf Aan [(.t 131),(.t 132)]) 130 true,ig 134 (.bin .leq (.t 133) (k6 0)) 130 true,i1 135 (.pick (.t 130) (.t 134) (.c (.bool false)))]) (.cond (.t 135) (.ops [mv 136 21,i1 137 (.bin .add (.t 136) (.c (.int .u64 1))),mv 21 137]) (.skip))
def Odo5:Ac := .seq (.block 1 (.seq (.ops [i1 125 (.iaddr 1 (.t 121) (.t 123)),i1 126 (.load false 1 (.t 125)),mv 23 126]) (Odo4))) (.ops [i1 138 (.bin .add (.t 123) (k6 1)),mv 123 138])
def Odo6:Ac := .seq (.ops [mv 121 1,i1 122 (.len false (.t 121)),i1 123 (.move (k6 0))]) (.block 0 (.loop (.seq (.ops [i1 124 (.bin .lss (.t 123) (.t 122))]) (.seq (.cond (.t 124) (.skip) (.exit 0)) (Odo5)))))
def Odo7:Ac := .seq (.drawS [[mv 139 20],[i1 140 (.bin .eql (.t 139) (k6 0))],[mv 141 140],[ig 142 (.load true 6 (.t 19)) 141 true,ig 143 (cf AcO [(.t 142)]) 141 true,⟨(some 144),(.move (.t 21)),some (141,true),[3,4]⟩,⟨(some 145),(.load true 6 (.t 19)),some (141,true),[3,4,5]⟩,⟨(some 146),(cf Adk [(.t 145)]),some (141,true),[5]⟩,⟨(some 147),(.move (.t 21)),some (141,true),(ub 3 5)⟩,⟨(some 148),(.bin .sub (.t 146) (.t 147)),some (141,true),[5]⟩],[ig 149 (.buildSlice [(.int .u64 0)] 1 2 [(0,(.t 144)),(1,(.t 148))]) 141 true],[ig 150 (cf AaP [(.t 143),(.t 149)]) 141 true],[i1 151 (.pick (.t 141) (.t 150) (.c (.bool false)))],[mv 152 151],[ig 153 (.load true 6 (.t 19)) 152 true,ig 154 (cf Adk [(.t 153)]) 152 true,⟨(some 155),(.load true 6 (.t 19)),some (152,true),[14,15]⟩,ig 156 (cf AdL [(.t 155)]) 152 true,ig 157 (.bin .add (.t 154) (.t 156)) 152 true,⟨(some 158),(.move (.t 1)),some (152,true),(ub 14 5)⟩,⟨(some 159),(.len false (.t 158)),some (152,true),(ub 14 5)⟩,⟨(some 160),(.conv (.int .u64) (.t 159)),some (152,true),(ub 14 5)⟩],[ig 161 (.bin .eql (.t 157) (.t 160)) 152 true],[i1 162 (.pick (.t 152) (.t 161) (.c (.bool false)))],[mv 8 162]]) (.ret)
def Odo8:Ac := .seq (.ops [mv 110 3,i1 111 (.buildSlice [(.flt .f64 0)] 1 1 [(0,(.t 110))]),mv 112 1,i1 113 (cf AzF [(.t 111),(.t 112)]),mv 109 113,i1 114 (.extract (.t 109) 0),i1 115 (.extract (.t 109) 1),i1 19 (.alloc [.nils,.nils,(.int .u64 0),(.int .u64 0),(.flt .f64 0),(.flt .f64 0)]),i0 (.store 6 (.t 19) (.t 114)),mv 20 115]) (.seq (Odo3) (.seq (.ops [i1 21 (.move (.c (.int .u64 0)))]) (.seq (Odo6) (Odo7))))
def Odo9:Ac := .seq (.ops [i1 73 (.load true 6 (.t 13)),i1 74 (cf AdK [(.t 73)]),mv 72 74,i1 75 (.extract (.t 72) 0),i1 76 (.extract (.t 72) 1),mv 17 75,mv 18 76]) (.seq (Odo2) (Odo8))
def Odo10:Ac := .seq (.ops [i1 68 (.load true 6 (.t 11)),i1 69 (cf AdK [(.t 68)]),mv 67 69,i1 70 (.extract (.t 67) 0),i1 71 (.extract (.t 67) 1),mv 15 70,mv 16 71]) (Odo9)
def Odo11:Ac := .seq (.ops [mv 62 0,mv 63 10,i1 64 (cf AzF [(.t 62),(.t 63)]),mv 61 64,i1 65 (.extract (.t 61) 0),i1 66 (.extract (.t 61) 1),i1 13 (.alloc [.nils,.nils,(.int .u64 0),(.int .u64 0),(.flt .f64 0),(.flt .f64 0)]),i0 (.store 6 (.t 13) (.t 65)),mv 14 66]) (Odo10)
def Odo12:Ac := .seq (.ops [mv 56 0,mv 57 1,i1 58 (cf AzF [(.t 56),(.t 57)]),mv 55 58,i1 59 (.extract (.t 55) 0),i1 60 (.extract (.t 55) 1),i1 11 (.alloc [.nils,.nils,(.int .u64 0),(.int .u64 0),(.flt .f64 0),(.flt .f64 0)]),i0 (.store 6 (.t 11) (.t 59)),mv 12 60]) (Odo11)
def Odo13:Ac := .seq (.drawS [[mv 45 1,mu 46 9 [0],i1 47 (.slice 1 (.t 45) (some (.t 46)) none none),mu 48 1 [0,1,2],mu 49 9 (ur 4),iu 50 (.slice 1 (.t 48) none (some (.t 49)) none) [0,1,2]],[i1 51 (.buildSlice [.nils] 1 2 [(0,(.t 47)),(1,(.t 50))])],[i1 52 (cf Occ [(.t 51)])],[mv 10 52]]) (.seq (.ops [mv 53 10,i1 54 (cf Ocd [(.t 53)])]) (Odo12))
def Odo14:Ac := .seq (.ops [mv 39 2,i1 40 (.conv (.int .i64) (.t 39)),mv 41 1,i1 42 (.len false (.t 41)),i1 43 (.bin .add (.t 42) (k6 1)),i1 44 (.bin .rem (.t 40) (.t 43)),mv 9 44]) (Odo13)
def Odo15:Ac := .seq (.seq (.ops [i1 24 (cf AwI []),i1 25 (.un .not (.t 24))]) (.cond (.t 25) (.seq (.ops [i1 8 (.move (.c (.bool false)))]) (.ret)) (.skip))) (.seq (Odo1) (Odo14))
def Ocg:AFunc:=⟨4,163,[.tmp 8],
 .seq (.ops [i1 8 (.move (.c (.bool false)))]) (Odo15)⟩
def AwV:Ac := .seq (.ops [mv 15 4,mv 16 4,i1 17 (.bin .neq (.t 15) (.t 16)),mv 18 17,ig 19 (.move (.t 3)) 18 false,ig 20 (.bin .gtr (.t 19) (k6 0)) 18 false,ig 21 (.move (.t 20)) 18 false,ig 22 (.move (.t 0)) 21 true,ig 23 (.move (.t 3)) 21 true,ig 24 (.bin .sub (.t 23) (k6 1)) 21 true,ig 25 (.iaddr 1 (.t 22) (.t 24)) 21 true,ig 26 (.load false 1 (.t 25)) 21 true,ig 27 (.move (.t 4)) 21 true,ig 28 (cf AmF [(.t 26),(.t 27)]) 21 true,ig 29 (.bin .geq (.t 28) (k6 0)) 21 true,ig 30 (.pick (.t 21) (.t 29) (.c (.bool false))) 18 false,i1 31 (.pick (.t 18) (.c (.bool true)) (.t 30))]) (.cond (.t 31) (.seq (.ops [i1 2 (.move (k6 21))]) (.ret)) (.skip))
def AwU:Ac := .seq (.block 1 (.seq (.ops [mv 12 10,i1 13 (.iaddr 1 (.t 8) (.t 10)),i1 14 (.load false 1 (.t 13)),mv 3 12,mv 4 14]) (AwV))) (.ops [i1 32 (.bin .add (.t 10) (k6 1)),mv 10 32])
def AwT:Ac := .seq (.ops [mv 8 0,i1 9 (.len false (.t 8)),i1 10 (.move (k6 0))]) (.block 0 (.loop (.seq (.ops [i1 11 (.bin .lss (.t 10) (.t 9))]) (.seq (.cond (.t 11) (.skip) (.exit 0)) (AwU)))))
def AwS:Ac := .seq (.seq (.ops [mv 5 0,i1 6 (.len false (.t 5)),i1 7 (.bin .gtr (.t 6) (k6 32))]) (.cond (.t 7) (.seq (.ops [i1 2 (.move (k6 6))]) (.ret)) (.skip))) (.seq (AwT) (.seq (.ops [i1 2 (.move (k6 0))]) (.ret)))
def Ank:AFunc:=⟨1,33,[.tmp 2],
 .seq (.ops [i1 2 (.move (k6 0))]) (AwS)⟩
def Odc1:Ac := .seq (.ops [mv 15 3,mv 16 5,i1 17 (.len false (.t 16)),i1 18 (.bin .add (.t 15) (.t 17)),mv 3 18]) (.seq (.ops [mv 19 3,i1 20 (.bin .lss (.t 19) (k6 0))]) (.cond (.t 20) (.ops [i1 21 .bad,i0 .bad]) (.skip)))
def Odc2:Ac := .seq (.block 1 (.seq (.ops [i1 13 (.iaddr 1 (.t 9) (.t 11)),i1 14 (.load false 1 (.t 13)),mv 5 14]) (Odc1))) (.ops [i1 22 (.bin .add (.t 11) (k6 1)),mv 11 22])
def Odc3:Ac := .seq (.ops [mv 9 0,i1 10 (.len false (.t 9)),i1 11 (.move (k6 0))]) (.block 0 (.loop (.seq (.ops [i1 12 (.bin .lss (.t 11) (.t 10))]) (.seq (.cond (.t 12) (.skip) (.exit 0)) (Odc2)))))
def Odc4:Ac := .seq (.ops [i1 29 (.iaddr 1 (.t 25) (.t 27)),i1 30 (.load false 1 (.t 29)),mv 8 30]) (.ops [mv 31 6,mv 32 8,i1 33 (.append 1 8 (.t 31) (.t 32)),mv 6 33])
def Odc5:Ac := .seq (.ops [i1 28 (.bin .lss (.t 27) (.t 26))]) (.seq (.cond (.t 28) (.skip) (.exit 2)) (.seq (.block 3 (Odc4)) (.ops [i1 34 (.bin .add (.t 27) (k6 1)),mv 27 34])))
def Odc6:Ac := .seq (.seq (.ops [mv 25 0,i1 26 (.len false (.t 25)),i1 27 (.move (k6 0))]) (.block 2 (.loop (Odc5)))) (.seq (.ops [mv 35 6,mv 2 35]) (.ret))
def Odc7:Ac := .seq (.ops [i1 3 (.move (k6 0))]) (.seq (Odc3) (.seq (.ops [mv 23 3,i1 24 (cf Oce [(.c .nils),(.t 23)]),mv 6 24]) (Odc6)))
def Ocb:AFunc:=⟨1,36,[.tmp 2],
 .seq (.ops [i1 2 (.move (.c .nils))]) (Odc7)⟩
def Odr1:Ac := .draw [mv 14 0,mu 15 2 [0],mu 16 0 [0,1],mu 17 3 [0,1,2],mu 18 0 (ur 4),mu 19 3 (ur 5),iu 20 (.iaddr 1 (.t 18) (.t 19)) (ur 4),iu 21 (.load false 1 (.t 20)) (ur 4),mu 22 0 (ur 8),mu 23 2 (ur 9),iu 24 (.iaddr 1 (.t 22) (.t 23)) (ur 8),iu 25 (.load false 1 (.t 24)) (ur 8),iu 26 (.iaddr 1 (.t 14) (.t 15)) [2,3],j0 (.store 1 (.t 26) (.t 21)) [2,3],i1 27 (.iaddr 1 (.t 16) (.t 17)),i0 (.store 1 (.t 27) (.t 25))]
def Odr2:Ac := .seq (.block 1 (Odr1)) (.ops [mv 10 2,i1 11 (.bin .add (.t 10) (k6 1)),mv 12 3,i1 13 (.bin .sub (.t 12) (k6 1)),mv 2 11,mv 3 13])
def Odr3:Ac := .block 0 (.loop (.seq (.seq (.ops [mv 7 2,mv 8 3,i1 9 (.bin .lss (.t 7) (.t 8))]) (.cond (.t 9) (.skip) (.exit 0))) (Odr2)))
def Oca:AFunc:=⟨1,28,[],
 .seq (.ops [mv 4 0,i1 5 (.len false (.t 4)),i1 6 (.bin .sub (.t 5) (k6 1)),i1 2 (.move (k6 0)),mv 3 6]) (Odr3)⟩
def BbI:Ac := .seq (.ops [i1 19 (.iaddr 1 (.t 15) (.t 17)),i1 20 (.load false 1 (.t 19)),mv 9 20]) (.ops [i1 21 (.load true 6 (.t 6)),mv 22 9,i1 23 (cf Abd [(.t 21),(.t 22)]),i0 (.store 6 (.t 6) (.t 23))])
def BbH:Ac := .seq (.ops [i1 18 (.bin .lss (.t 17) (.t 16))]) (.seq (.cond (.t 18) (.skip) (.exit 0)) (.seq (.block 1 (BbI)) (.ops [i1 24 (.bin .add (.t 17) (k6 1)),mv 17 24])))
def BbG:Ac := .seq (.seq (.ops [mv 15 1,i1 16 (.len false (.t 15)),i1 17 (.move (k6 0))]) (.block 0 (.loop (BbH)))) (.seq (.ops [i1 25 (.load true 6 (.t 6)),mv 26 7,i0 (.store 6 (.t 4) (.t 25)),mv 5 26]) (.ret))
def BbF:Ac := .seq (.ops [mv 11 0,i1 12 (cf Adj [(.t 11)]),mv 10 12,i1 13 (.extract (.t 10) 0),i1 14 (.extract (.t 10) 1),i1 6 (.alloc [.nils,.nils,(.int .u64 0),(.int .u64 0),(.flt .f64 0),(.flt .f64 0)]),i0 (.store 6 (.t 6) (.t 13)),mv 7 14]) (BbG)
def ArQ:AFunc:=⟨2,27,[.cell 4 true 6,.tmp 5],
 .seq (.ops [i1 4 (.alloc [.nils,.nils,(.int .u64 0),(.int .u64 0),(.flt .f64 0),(.flt .f64 0)]),i1 5 (.move (k6 0))]) (BbF)⟩
def Agy:Ac := .seq (.ops [i1 4 (.faddr 3 (.t 1)),i1 5 (.load false 1 (.t 4)),i1 6 (.bin .eql (.t 5) (.c (.int .u64 0)))]) (.cond (.t 6) (.seq (.ops [i1 7 (cf AbB []),i1 8 (cf AbB []),mv 2 7,mv 3 8]) (.ret)) (.skip))
def Agx:Ac := .seq (.draw [i1 9 (.faddr 4 (.t 1)),i1 10 (.load false 1 (.t 9)),iu 11 (.faddr 5 (.t 1)) [0,1],iu 12 (.load false 1 (.t 11)) [0,1],mu 2 10 [2,3],mv 3 12]) (.ret)
def AbU:AFunc:=⟨1,13,[.tmp 2,.tmp 3],
 .seq (.ops [i1 1 (.box 6 (.t 0)),i1 2 (.move (.c (.flt .f64 0))),i1 3 (.move (.c (.flt .f64 0)))]) (.seq (Agy) (Agx))⟩
def Abg:AFunc:=⟨1,5,[.tmp 2],
 .seq (.ops [i1 1 (.box 6 (.t 0)),i1 2 (.move (.c .nils))]) (.seq (.ops [i1 3 (.load true 6 (.t 1)),i1 4 (cf AaE [(.t 3)]),mv 2 4]) (.ret))⟩
def AcE:Ac := .seq (.ops [mv 6 0,i1 7 (.len false (.t 6)),mv 8 1,i1 9 (.len false (.t 8)),i1 10 (.bin .neq (.t 7) (.t 9))]) (.cond (.t 10) (.seq (.ops [i1 4 (.move (.c (.bool false)))]) (.ret)) (.skip))
def AcD:Ac := .seq (.draw [mv 16 0,mu 17 5 [0],i1 18 (.iaddr 1 (.t 16) (.t 17)),i1 19 (.load false 1 (.t 18)),mu 20 1 (ur 4),mu 21 5 (ur 5),iu 22 (.iaddr 1 (.t 20) (.t 21)) (ur 4),iu 23 (.load false 1 (.t 22)) (ur 4),i1 24 (.bin .neq (.t 19) (.t 23))]) (.cond (.t 24) (.seq (.ops [i1 4 (.move (.c (.bool false)))]) (.ret)) (.skip))
def AcC:Ac := .seq (.cond (.t 14) (.skip) (.exit 0)) (.seq (.block 1 (.seq (.ops [mv 15 13,mv 5 15]) (AcD))) (.ops [i1 25 (.bin .add (.t 13) (k6 1)),mv 13 25]))
def AcB:Ac := .seq (.ops [mv 11 0,i1 12 (.len false (.t 11)),i1 13 (.move (k6 0))]) (.block 0 (.loop (.seq (.ops [i1 14 (.bin .lss (.t 13) (.t 12))]) (AcC))))
def Aam:AFunc:=⟨2,26,[.tmp 4],
 .seq (.ops [i1 4 (.move (.c (.bool false)))]) (.seq (AcE) (.seq (AcB) (.seq (.ops [i1 4 (.move (.c (.bool true)))]) (.ret))))⟩
def AbV:AFunc:=⟨1,5,[.tmp 2],
 .seq (.ops [i1 1 (.box 6 (.t 0)),i1 2 (.move (.c (.int .u64 0)))]) (.seq (.ops [i1 3 (.faddr 2 (.t 1)),i1 4 (.load false 1 (.t 3)),mv 2 4]) (.ret))⟩
def Abs:AFunc:=⟨1,5,[.tmp 2],
 .seq (.ops [i1 1 (.box 6 (.t 0)),i1 2 (.move (.c (.int .u64 0)))]) (.seq (.ops [i1 3 (.faddr 3 (.t 1)),i1 4 (.load false 1 (.t 3)),mv 2 4]) (.ret))⟩
def Ahz:AFunc:=⟨2,9,[.tmp 4],
 .seq (.ops [i1 4 (.move (.c (.bool false)))]) (.seq (.ops [mv 5 0,mv 6 1,i1 7 (cf Aan [(.t 5),(.t 6)]),i1 8 (.bin .eql (.t 7) (k6 0)),mv 4 8]) (.ret))⟩
def AuA:Ac := .seq (.ops [mv 6 0,i1 7 (cf AeH [(.t 6)]),mv 8 1,i1 9 (cf AeH [(.t 8)]),i1 10 (cf Aes [(.t 7),(.t 9)]),mv 5 10]) (.seq (.ops [mv 11 5,i1 12 (.bin .neq (.t 11) (k6 0))]) (.cond (.t 12) (.seq (.ops [mv 13 5,mv 4 13]) (.ret)) (.skip)))
def Auz:Ac := .seq (.seq (.ops [mv 14 0,i1 15 (cf AeH [(.t 14)]),i1 16 (.bin .eql (.t 15) (k6 0))]) (.cond (.t 16) (.seq (.ops [i1 4 (.move (k6 0))]) (.ret)) (.skip))) (.seq (.ops [mv 17 0,mv 18 1,i1 19 (cf AcA [(.t 17),(.t 18)]),mv 4 19]) (.ret))
def Akc:AFunc:=⟨2,20,[.tmp 4],
 .seq (.ops [i1 4 (.move (k6 0))]) (.seq (AuA) (Auz))⟩
def AxH:Ac := .seq (.ops [mv 11 5,mv 12 6,i1 13 (.bin .lss (.t 11) (.t 12)),mv 14 13,ig 15 (.move (.t 5)) 14 false,ig 16 (.move (.t 6)) 14 false,ig 17 (.bin .eql (.t 15) (.t 16)) 14 false,ig 18 (.move (.t 17)) 14 false,ig 19 (.move (.t 0)) 18 true,ig 20 (.move (.t 1)) 18 true,ig 21 (.bin .lss (.t 19) (.t 20)) 18 true,ig 22 (.pick (.t 18) (.t 21) (.c (.bool false))) 14 false,i1 23 (.pick (.t 14) (.c (.bool true)) (.t 22))]) (.cond (.t 23) (.seq (.ops [i1 4 (.move (k6 (-1)))]) (.ret)) (.skip))
def AxG:Ac := .seq (.ops [mv 24 5,mv 25 6,i1 26 (.bin .gtr (.t 24) (.t 25)),mv 27 26,ig 28 (.move (.t 0)) 27 false,ig 29 (.move (.t 1)) 27 false,ig 30 (.bin .gtr (.t 28) (.t 29)) 27 false,i1 31 (.pick (.t 27) (.c (.bool true)) (.t 30))]) (.cond (.t 31) (.seq (.ops [i1 4 (.move (k6 1))]) (.ret)) (.skip))
def AxF:Ac := .seq (.ops [mv 7 0,i1 8 (cf Ajx [(.t 7)]),mv 9 1,i1 10 (cf Ajx [(.t 9)]),mv 5 8,mv 6 10]) (.seq (AxH) (.seq (AxG) (.seq (.ops [i1 4 (.move (k6 0))]) (.ret))))
def AfR:AFunc:=⟨2,32,[.tmp 4],
 .seq (.ops [i1 4 (.move (k6 0))]) (AxF)⟩
def Odg1:Ac := .ops [mv 17 0,mv 18 0,i1 19 .bad,i1 20 (.slice 1 (.t 17) none (some (.t 19)) none),mv 21 1,i1 22 .bad,mv 23 0,i1 24 (.len false (.t 23)),i1 25 (.slice 1 (.t 22) none (some (.t 24)) none),mv 0 25]
def Odg2:Ac := .seq (.ops [mv 8 1,mv 9 0,i1 10 .bad,mv 11 0,i1 12 (.len false (.t 11)),i1 13 (.bin .sub (.t 10) (.t 12)),i1 14 (.bin .sub (.t 8) (.t 13)),mv 1 14]) (.seq (.ops [mv 15 1,i1 16 (.bin .gtr (.t 15) (k6 0))]) (.cond (.t 16) (Odg1) (.skip)))
def Odg3:Ac := .seq (.seq (.ops [mv 5 1,i1 6 (.bin .lss (.t 5) (k6 0))]) (.cond (.t 6) (.ops [i1 7 .bad,i0 .bad]) (.skip))) (.seq (Odg2) (.seq (.ops [mv 26 0,mv 4 26]) (.ret)))
def Ocf:AFunc:=⟨2,27,[.tmp 4],
 .seq (.ops [i1 4 (.move (.c .nils))]) (Odg3)⟩
def ArA:Ac := .seq (.ops [i1 9 (.build [.nils,.nils,(.int .u64 0),(.int .u64 0),(.flt .f64 0),(.flt .f64 0)] []),i0 (.store 6 (.t 2) (.t 9)),i1 3 (.move (k6 6))]) (.ret)
def Arz:Ac := .seq (.ops [i1 33 (.build [.nils,.nils,(.int .u64 0),(.int .u64 0),(.flt .f64 0),(.flt .f64 0)] []),i0 (.store 6 (.t 2) (.t 33)),i1 3 (.move (k6 21))]) (.ret)
def Ary:Ac := .seq (.ops [mv 17 5,i1 18 (cf AdH [(.t 17)]),mv 19 18,ig 20 (.move (.t 4)) 19 false,ig 21 (.bin .gtr (.t 20) (k6 0)) 19 false,ig 22 (.move (.t 21)) 19 false,ig 23 (.move (.t 0)) 22 true,ig 24 (.move (.t 4)) 22 true,ig 25 (.bin .sub (.t 24) (k6 1)) 22 true,ig 26 (.iaddr 1 (.t 23) (.t 25)) 22 true,ig 27 (.load false 1 (.t 26)) 22 true,ig 28 (.move (.t 5)) 22 true,ig 29 (cf Aan [(.t 27),(.t 28)]) 22 true,ig 30 (.bin .geq (.t 29) (k6 0)) 22 true,ig 31 (.pick (.t 22) (.t 30) (.c (.bool false))) 19 false,i1 32 (.pick (.t 19) (.c (.bool true)) (.t 31))]) (.cond (.t 32) (Arz) (.skip))
def Arx:Ac := .seq (.block 1 (.seq (.ops [mv 14 12,i1 15 (.iaddr 1 (.t 10) (.t 12)),i1 16 (.load false 1 (.t 15)),mv 4 14,mv 5 16]) (Ary))) (.ops [i1 34 (.bin .add (.t 12) (k6 1)),mv 12 34])
def Arw:Ac := .seq (.ops [mv 10 0,i1 11 (.len false (.t 10)),i1 12 (.move (k6 0))]) (.block 0 (.loop (.seq (.ops [i1 13 (.bin .lss (.t 12) (.t 11))]) (.seq (.cond (.t 13) (.skip) (.exit 0)) (Arx)))))
def Arv:Ac := .seq (.ops [mv 35 0,i1 36 (cf Aae [(.t 35)]),i1 37 (.build [.nils,.nils,(.int .u64 0),(.int .u64 0),(.flt .f64 0),(.flt .f64 0)] [((0,1),(.t 36))]),i0 (.store 6 (.t 2) (.t 37)),i1 3 (.move (k6 0))]) (.ret)
def Aru:Ac := .seq (.seq (.ops [mv 6 0,i1 7 (.len false (.t 6)),i1 8 (.bin .gtr (.t 7) (k6 32))]) (.cond (.t 8) (ArA) (.skip))) (.seq (Arw) (Arv))
def AeQ:AFunc:=⟨1,38,[.cell 2 true 6,.tmp 3],
 .seq (.ops [i1 2 (.alloc [.nils,.nils,(.int .u64 0),(.int .u64 0),(.flt .f64 0),(.flt .f64 0)]),i1 3 (.move (k6 0))]) (Aru)⟩
def Ahi:Ac := .seq (.ops [i1 7 (.faddr 2 (.t 2)),i1 8 (.load false 1 (.t 7)),i1 9 (cf Aju [(.t 8),(.c (.int .u64 1))]),i1 10 (.faddr 2 (.t 2)),i0 (.store 1 (.t 10) (.t 9))]) (.seq (.ops [i1 11 (.load true 6 (.t 2)),i0 (.store 6 (.t 4) (.t 11))]) (.ret))
def Ahh:Ac := .cond (.t 14) (.ops [mv 15 1,mv 16 1,i1 17 (.faddr 4 (.t 2)),i0 (.store 1 (.t 17) (.t 15)),i1 18 (.faddr 5 (.t 2)),i0 (.store 1 (.t 18) (.t 16))]) (.skip)
def Ahg:Ac := .seq (.draw [i1 38 (.faddr 1 (.t 2)),i1 39 (.load false 1 (.t 38)),iu 40 (.load true 6 (.t 2)) [0,1],mu 41 1 [0,1,2],iu 42 (cf AdJ [(.t 40),(.t 41)]) [0,1],i1 43 (.iaddr 1 (.t 39) (.t 42)),i1 44 (.load false 1 (.t 43)),i1 45 (.bin .add (.t 44) (.c (.int .u64 1))),i1 46 (.iaddr 1 (.t 39) (.t 42)),i0 (.store 1 (.t 46) (.t 45))]) (.seq (.ops [i1 47 (.load true 6 (.t 2)),i0 (.store 6 (.t 4) (.t 47))]) (.ret))
def Ahf:Ac := .seq (.ops [i1 31 (.faddr 3 (.t 2)),i1 32 (.load false 1 (.t 31)),i1 33 (cf Aju [(.t 32),(.c (.int .u64 1))]),i1 34 (.faddr 3 (.t 2)),i0 (.store 1 (.t 34) (.t 33))]) (.seq (.ops [i1 35 (.load true 6 (.t 2)),i1 36 (cf AaE [(.t 35)]),i1 37 (.faddr 1 (.t 2)),i0 (.store 1 (.t 37) (.t 36))]) (Ahg))
def Adm:Ac := .seq (.draw [i1 19 (.faddr 4 (.t 2)),i1 20 (.load false 1 (.t 19)),mu 21 1 [0,1],i1 22 (.buildSlice [(.flt .f64 0)] 1 2 [(0,(.t 20)),(1,(.t 21))]),i1 23 (cf AkK [(.t 22)]),iu 24 (.faddr 5 (.t 2)) (ur 5),iu 25 (.load false 1 (.t 24)) (ur 5),mu 26 1 (ur 7),iu 27 (.buildSlice [(.flt .f64 0)] 1 2 [(0,(.t 25)),(1,(.t 26))]) (ur 5),i1 28 (cf AmB [(.t 27)]),iu 29 (.faddr 4 (.t 2)) [7,8,9],i0 (.store 1 (.t 29) (.t 23)),i1 30 (.faddr 5 (.t 2)),i0 (.store 1 (.t 30) (.t 28))]) (Ahf)
def Ahe:Ac := .seq (.seq (.ops [i1 12 (.faddr 3 (.t 2)),i1 13 (.load false 1 (.t 12)),i1 14 (.bin .eql (.t 13) (.c (.int .u64 0)))]) (Ahh)) (Adm)
def Aaj:AFunc:=⟨2,48,[.cell 4 true 6],
 .seq (.ops [i1 2 (.box 6 (.t 0)),i1 4 (.alloc [.nils,.nils,(.int .u64 0),(.int .u64 0),(.flt .f64 0),(.flt .f64 0)])]) (.seq (.seq (.ops [mv 5 1,i1 6 (cf AdH [(.t 5)])]) (.cond (.t 6) (Ahi) (.skip))) (Ahe))⟩
def Akk:AFunc:=⟨0,2,[.tmp 0],
 .seq (.ops [i1 0 (.move (.c (.flt .f64 0)))]) (.seq (.ops [i1 1 (cf AaO [(.c (.int .u64 9221120237041090561))]),mv 0 1]) (.ret))⟩
def Afe:Ac := .seq (.ops [i1 4 (.faddr 0 (.t 1)),i1 5 (.load false 1 (.t 4)),i1 6 (.len false (.t 5)),i1 7 (.bin .add (.t 6) (k6 1)),i1 8 (.makeSlice [(.int .u64 0)] 1 8 (.t 7) (.t 7)),mv 3 8]) (.seq (.ops [mv 9 3,i1 10 (.faddr 1 (.t 1)),i1 11 (.load false 1 (.t 10)),i1 12 (.copy 1 (.t 9) (.t 11))]) (.seq (.ops [mv 13 3,mv 2 13]) (.ret)))
def Abf:AFunc:=⟨1,14,[.tmp 2],
 .seq (.ops [i1 1 (.box 6 (.t 0)),i1 2 (.move (.c .nils))]) (Afe)⟩
def AqN:Ac := .cond (.t 19) (.seq (.ops [i1 2 (.move (k6 4))]) (.ret)) (.seq (.ops [mv 23 0,i1 24 (cf Acz [(.t 23),(k6 1)]),mv 22 24]) (.cond (.t 22) (.seq (.ops [i1 2 (.move (k6 6))]) (.ret)) (.skip)))
def AqM:Ac := .cond (.t 12) (.seq (.ops [i1 2 (.move (k6 3))]) (.ret)) (.seq (.ops [mv 20 0,i1 21 (.bin .eql (.t 20) (.c (.flt .f64 0))),mv 19 21]) (AqN))
def AqL:Ac := .seq (.ops [mv 13 0,i1 14 (.bin .eql (.t 13) (.c (.flt .f64 0))),mv 15 14,ig 16 (.move (.t 0)) 15 true,ig 17 (cf AgE [(.t 16)]) 15 true,i1 18 (.pick (.t 15) (.t 17) (.c (.bool false))),mv 12 18]) (AqM)
def AqK:Ac := .cond (.t 6) (.seq (.ops [i1 2 (.move (k6 1))]) (.ret)) (.seq (.ops [mv 10 0,i1 11 (.bin .lss (.t 10) (.c (.flt .f64 0))),mv 9 11]) (.cond (.t 9) (.seq (.ops [i1 2 (.move (k6 2))]) (.ret)) (AqL)))
def AqJ:Ac := .seq (.ops [mv 4 0,i1 5 (cf AdH [(.t 4)]),mv 3 5]) (.cond (.t 3) (.seq (.ops [i1 2 (.move (k6 0))]) (.ret)) (.seq (.ops [mv 7 0,i1 8 (cf Acz [(.t 7),(k6 (-1))]),mv 6 8]) (AqK)))
def AaJ:AFunc:=⟨1,25,[.tmp 2],
 .seq (.ops [i1 2 (.move (k6 0))]) (.seq (.block 0 (AqJ)) (.seq (.ops [i1 2 (.move (k6 5))]) (.ret)))⟩
def Ahm:Ac := .cond (.t 11) (.seq (.seq (.ops [mv 12 6]) (.cond (.t 12) (.seq (.ops [i1 4 (.move (k6 0))]) (.ret)) (.skip))) (.seq (.ops [i1 4 (.move (k6 (-1)))]) (.ret))) (.skip)
def Ahl:Ac := .seq (.seq (.ops [mv 17 0,mv 18 1,i1 19 (.bin .gtr (.t 17) (.t 18))]) (.cond (.t 19) (.seq (.ops [i1 4 (.move (k6 1))]) (.ret)) (.skip))) (.seq (.ops [i1 4 (.move (k6 0))]) (.ret))
def Ahk:Ac := .seq (.seq (.ops [mv 14 0,mv 15 1,i1 16 (.bin .lss (.t 14) (.t 15))]) (.cond (.t 16) (.seq (.ops [i1 4 (.move (k6 (-1)))]) (.ret)) (.skip))) (Ahl)
def Ahj:Ac := .seq (.seq (.ops [mv 11 5]) (Ahm)) (.seq (.seq (.ops [mv 13 6]) (.cond (.t 13) (.seq (.ops [i1 4 (.move (k6 1))]) (.ret)) (.skip))) (Ahk))
def Acj:AFunc:=⟨2,20,[.tmp 4],
 .seq (.ops [i1 4 (.move (k6 0))]) (.seq (.ops [mv 7 0,i1 8 (cf Adl [(.t 7)]),mv 5 8]) (.seq (.ops [mv 9 1,i1 10 (cf Adl [(.t 9)]),mv 6 10]) (Ahj)))⟩
def AeN:Ac := .cond (.t 11) (.seq (.seq (.ops [mv 12 6]) (.cond (.t 12) (.seq (.ops [i1 4 (.move (k6 0))]) (.ret)) (.skip))) (.seq (.ops [i1 4 (.move (k6 (-1)))]) (.ret))) (.skip)
def AeM:Ac := .seq (.seq (.ops [mv 17 0,mv 18 1,i1 19 (.bin .gtr (.t 17) (.t 18))]) (.cond (.t 19) (.seq (.ops [i1 4 (.move (k6 1))]) (.ret)) (.skip))) (.seq (.ops [i1 4 (.move (k6 0))]) (.ret))
def AeL:Ac := .seq (.seq (.ops [mv 14 0,mv 15 1,i1 16 (.bin .lss (.t 14) (.t 15))]) (.cond (.t 16) (.seq (.ops [i1 4 (.move (k6 (-1)))]) (.ret)) (.skip))) (AeM)
def AeK:Ac := .seq (.seq (.ops [mv 11 5]) (AeN)) (.seq (.seq (.ops [mv 13 6]) (.cond (.t 13) (.seq (.ops [i1 4 (.move (k6 1))]) (.ret)) (.skip))) (AeL))
def AaX:AFunc:=⟨2,20,[.tmp 4],
 .seq (.ops [i1 4 (.move (k6 0))]) (.seq (.ops [mv 7 0,i1 8 (cf Abq [(.t 7)]),mv 5 8]) (.seq (.ops [mv 9 1,i1 10 (cf Abq [(.t 9)]),mv 6 10]) (AeK)))⟩
def Ave:Ac := .seq (.ops [mv 8 0,mv 9 0,i1 10 (.bin .add (.t 8) (.t 9)),mv 11 0,i1 12 (.bin .eql (.t 10) (.t 11))]) (.cond (.t 12) (.seq (.ops [i1 2 (.move (k6 1))]) (.ret)) (.skip))
def Avd:Ac := .seq (.ops [mv 6 0,i1 7 (.bin .lss (.t 6) (.c (.flt .f64 0)))]) (.cond (.t 7) (.seq (Ave) (.seq (.ops [i1 2 (.move (k6 2))]) (.ret))) (.skip))
def Avc:Ac := .seq (.ops [mv 15 0,mv 16 0,i1 17 (.bin .add (.t 15) (.t 16)),mv 18 0,i1 19 (.bin .eql (.t 17) (.t 18))]) (.cond (.t 19) (.seq (.ops [i1 2 (.move (k6 6))]) (.ret)) (.skip))
def Avb:Ac := .seq (.ops [mv 13 0,i1 14 (.bin .gtr (.t 13) (.c (.flt .f64 0)))]) (.cond (.t 14) (.seq (Avc) (.seq (.ops [i1 2 (.move (k6 5))]) (.ret))) (.skip))
def Ava:Ac := .seq (.ops [mv 20 0,i1 21 (.bin .quo (.c (.flt .f64 4607182418800017408)) (.t 20)),i1 22 (.bin .lss (.t 21) (.c (.flt .f64 0)))]) (.cond (.t 22) (.seq (.ops [i1 2 (.move (k6 3))]) (.ret)) (.skip))
def AuZ:Ac := .seq (.seq (.ops [mv 3 0,mv 4 0,i1 5 (.bin .neq (.t 3) (.t 4))]) (.cond (.t 5) (.seq (.ops [i1 2 (.move (k6 0))]) (.ret)) (.skip))) (.seq (Avd) (.seq (Avb) (.seq (Ava) (.seq (.ops [i1 2 (.move (k6 4))]) (.ret)))))
def Ach:AFunc:=⟨1,23,[.tmp 2],
 .seq (.ops [i1 2 (.move (k6 0))]) (AuZ)⟩
def AfS:AFunc:=⟨1,6,[.tmp 2],
 .seq (.ops [i1 2 (.move (.c (.bool false)))]) (.seq (.ops [mv 3 0,mv 4 0,i1 5 (.bin .neq (.t 3) (.t 4)),mv 2 5]) (.ret))⟩
def AbW:Ac := .seq (.seq (.ops [mv 3 0,i1 4 (.isNil .slice false (.t 3))]) (.cond (.t 4) (.seq (.ops [i1 2 (.move (.c .nils))]) (.ret)) (.skip))) (.seq (.ops [i1 5 (.buildSlice [(.flt .f64 0)] 1 0 []),mv 6 0,i1 7 (.append 1 8 (.t 5) (.t 6)),mv 2 7]) (.ret))
def Aak:AFunc:=⟨1,8,[.tmp 2],
 .seq (.ops [i1 2 (.move (.c .nils))]) (AbW)⟩
def Auf:Ac := .seq (.ops [mv 5 1,mv 6 0,i1 7 (.bin .sub (.c (.int .u64 18446744073709551615)) (.t 6)),i1 8 (.bin .gtr (.t 5) (.t 7))]) (.cond (.t 8) (.seq (.ops [i1 4 (.move (.c (.int .u64 18446744073709551615)))]) (.ret)) (.skip))
def AjX:AFunc:=⟨2,12,[.tmp 4],
 .seq (.ops [i1 4 (.move (.c (.int .u64 0)))]) (.seq (Auf) (.seq (.ops [mv 9 0,mv 10 1,i1 11 (.bin .add (.t 9) (.t 10)),mv 4 11]) (.ret)))⟩
def AnT:Ac := .seq (.seq (.ops [mv 3 0,i1 4 (.len false (.t 3)),i1 5 (.bin .eql (.t 4) (k6 0))]) (.cond (.t 5) (.seq (.ops [i1 6 (cf AbB []),mv 2 6]) (.ret)) (.skip))) (.seq (.ops [mv 7 0,i1 8 (cf AaC [(.t 7),(.c (.fn (.func Aan) [] []))]),mv 2 8]) (.ret))
def AfN:AFunc:=⟨1,9,[.tmp 2],
 .seq (.ops [i1 2 (.move (.c (.flt .f64 0)))]) (AnT)⟩
def AqI:Ac := .seq (.seq (.ops [mv 3 0,i1 4 (.len false (.t 3)),i1 5 (.bin .eql (.t 4) (k6 0))]) (.cond (.t 5) (.seq (.ops [i1 6 (cf AbB []),mv 2 6]) (.ret)) (.skip))) (.seq (.ops [mv 7 0,i1 8 (cf AaD [(.t 7),(.c (.fn (.func Aan) [] []))]),mv 2 8]) (.ret))
def AhA:AFunc:=⟨1,9,[.tmp 2],
 .seq (.ops [i1 2 (.move (.c (.flt .f64 0)))]) (AqI)⟩
def Agw:Ac := .seq (.ops [i1 8 (.faddr 0 (.t 2)),i1 9 (.load false 1 (.t 8)),mv 10 1,i1 11 (cf Aag [(.t 9),(.t 10),(.c (.fn (.func Aan) [] []))]),mv 7 11,i1 12 (.extract (.t 7) 0),i1 13 (.extract (.t 7) 1),mv 5 12,mv 6 13]) (.seq (.ops [mv 14 5,mv 4 14]) (.ret))
def AbT:AFunc:=⟨2,15,[.tmp 4],
 .seq (.ops [i1 2 (.box 6 (.t 0)),i1 4 (.move (k6 0))]) (Agw)⟩
def Aoo:Ac := .cond (.t 6) (.ops [mv 7 0,i1 8 (cf Bbl [(.t 7)]),mv 0 8]) (.seq (.ops [mv 9 1,i1 10 (.bin .lss (.t 9) (k6 0))]) (.cond (.t 10) (.ops [mv 11 0,i1 12 (.un .neg (.t 11)),mv 0 12]) (.skip)))
def Aon:Ac := .seq (.seq (.ops [mv 5 1,i1 6 (.bin .eql (.t 5) (k6 0))]) (Aoo)) (.seq (.ops [mv 13 0,i1 14 (.bin .gtr (.t 13) (.c (.flt .f64 9218868437227405311))),mv 4 14]) (.ret))
def AdN:AFunc:=⟨2,15,[.tmp 4],
 .seq (.ops [i1 4 (.move (.c (.bool false)))]) (Aon)⟩
def Aea:AFunc:=⟨1,7,[.tmp 2],
 .seq (.ops [i1 2 (.move (.c (.bool false)))]) (.seq (.ops [mv 3 0,i1 4 (cf AdI [(.t 3)]),i1 5 (.conv (.int .i64) (.t 4)),i1 6 (.bin .lss (.t 5) (k6 0)),mv 2 6]) (.ret))⟩
def Adq:AFunc:=⟨1,6,[.tmp 2],
 .seq (.ops [i1 2 (.move (.c (.bool false)))]) (.seq (.ops [mv 3 0,mv 4 0,i1 5 (.bin .neq (.t 3) (.t 4)),mv 2 5]) (.ret))⟩
def Abu:AFunc:=⟨1,6,[.tmp 2],
 .seq (.ops [i1 2 (.move (.c (.bool false)))]) (.seq (.ops [mv 3 0,mv 4 0,i1 5 (.bin .neq (.t 3) (.t 4)),mv 2 5]) (.ret))⟩
def AbG:Ac := .seq (.ops [mv 20 1,mv 21 0,mv 22 6,i1 23 (.iaddr 1 (.t 21) (.t 22)),i1 24 (.load false 1 (.t 23)),mv 25 5,i1 26 (.call (.t 20) [(.t 24),(.t 25)]),i1 27 (.bin .lss (.t 26) (k6 0))]) (.cond (.t 27) (.ops [mv 28 0,mv 29 6,i1 30 (.iaddr 1 (.t 28) (.t 29)),i1 31 (.load false 1 (.t 30)),mv 5 31]) (.skip))
def AbF:Ac := .seq (.seq (.ops [mv 14 6,mv 15 0,i1 16 (.len false (.t 15)),i1 17 (.bin .lss (.t 14) (.t 16))]) (.cond (.t 17) (.skip) (.exit 0))) (.seq (.block 1 (AbG)) (.ops [mv 18 6,i1 19 (.bin .add (.t 18) (k6 1)),mv 6 19]))
def AbE:Ac := .seq (.ops [mv 11 0,i1 12 (.iaddr 1 (.t 11) (k6 0)),i1 13 (.load false 1 (.t 12)),mv 5 13]) (.seq (.seq (.ops [i1 6 (.move (k6 1))]) (.block 0 (.loop (AbF)))) (.seq (.ops [mv 32 5,mv 4 32]) (.ret)))
def AbD:Ac := .seq (.seq (.ops [mv 7 0,i1 8 (.len false (.t 7)),i1 9 (.bin .lss (.t 8) (k6 1))]) (.cond (.t 9) (.ops [i1 10 .bad,i0 .bad]) (.skip))) (AbE)
def Aah:AFunc:=⟨2,33,[.tmp 4],
 .seq (.ops [i1 4 (.move (.c (.flt .f64 0)))]) (AbD)⟩
def AbK:Ac := .seq (.ops [mv 20 1,mv 21 0,mv 22 6,i1 23 (.iaddr 1 (.t 21) (.t 22)),i1 24 (.load false 1 (.t 23)),mv 25 5,i1 26 (.call (.t 20) [(.t 24),(.t 25)]),i1 27 (.bin .gtr (.t 26) (k6 0))]) (.cond (.t 27) (.ops [mv 28 0,mv 29 6,i1 30 (.iaddr 1 (.t 28) (.t 29)),i1 31 (.load false 1 (.t 30)),mv 5 31]) (.skip))
def AbJ:Ac := .seq (.seq (.ops [mv 14 6,mv 15 0,i1 16 (.len false (.t 15)),i1 17 (.bin .lss (.t 14) (.t 16))]) (.cond (.t 17) (.skip) (.exit 0))) (.seq (.block 1 (AbK)) (.ops [mv 18 6,i1 19 (.bin .add (.t 18) (k6 1)),mv 6 19]))
def AbI:Ac := .seq (.ops [mv 11 0,i1 12 (.iaddr 1 (.t 11) (k6 0)),i1 13 (.load false 1 (.t 12)),mv 5 13]) (.seq (.seq (.ops [i1 6 (.move (k6 1))]) (.block 0 (.loop (AbJ)))) (.seq (.ops [mv 32 5,mv 4 32]) (.ret)))
def AbH:Ac := .seq (.seq (.ops [mv 7 0,i1 8 (.len false (.t 7)),i1 9 (.bin .lss (.t 8) (k6 1))]) (.cond (.t 9) (.ops [i1 10 .bad,i0 .bad]) (.skip))) (AbI)
def Aai:AFunc:=⟨2,33,[.tmp 4],
 .seq (.ops [i1 4 (.move (.c (.flt .f64 0)))]) (AbH)⟩
def Aaz:Ac := .seq (.ops [mv 24 2,mv 25 0,mv 26 11,i1 27 (.iaddr 1 (.t 25) (.t 26)),i1 28 (.load false 1 (.t 27)),mv 29 1,i1 30 (.call (.t 24) [(.t 28),(.t 29)]),i1 31 (.bin .lss (.t 30) (k6 0))]) (.cond (.t 31) (.ops [mv 32 11,i1 33 (.bin .add (.t 32) (k6 1)),mv 9 33]) (.ops [mv 34 11,mv 10 34]))
def Aay:Ac := .seq (.ops [mv 18 9,mv 19 10,i1 20 (.bin .add (.t 18) (.t 19)),i1 21 (.conv (.int .u64) (.t 20)),i1 22 (.bin .shr (.t 21) (.c (.int .u64 1))),i1 23 (.conv (.int .i64) (.t 22)),mv 11 23]) (Aaz)
def Aax:Ac := .seq (.seq (.ops [mv 15 9,mv 16 10,i1 17 (.bin .lss (.t 15) (.t 16))]) (.cond (.t 17) (.skip) (.exit 0))) (.block 1 (Aay))
def Aaw:Ac := .seq (.ops [mv 35 9,mv 36 9,mv 37 8,i1 38 (.bin .lss (.t 36) (.t 37)),mv 39 38,ig 40 (.move (.t 2)) 39 true,ig 41 (.move (.t 0)) 39 true,ig 42 (.move (.t 9)) 39 true,ig 43 (.iaddr 1 (.t 41) (.t 42)) 39 true,ig 44 (.load false 1 (.t 43)) 39 true,ig 45 (.move (.t 1)) 39 true,ig 46 (.call (.t 40) [(.t 44),(.t 45)]) 39 true,ig 47 (.bin .eql (.t 46) (k6 0)) 39 true,i1 48 (.pick (.t 39) (.t 47) (.c (.bool false))),mv 6 35,mv 7 48]) (.ret)
def Aav:Ac := .seq (.ops [mv 14 8,i1 9 (.move (k6 0)),mv 10 14]) (.seq (.block 0 (.loop (Aax))) (Aaw))
def Aad:AFunc:=⟨3,49,[.tmp 6,.tmp 7],
 .seq (.ops [i1 6 (.move (k6 0)),i1 7 (.move (.c (.bool false)))]) (.seq (.ops [mv 12 0,i1 13 (.len false (.t 12)),mv 8 13]) (Aav))⟩
def Apw:AFunc:=⟨1,7,[.tmp 2],
 .seq (.ops [i1 2 (.move (.c (.flt .f64 0)))]) (.seq (.ops [mv 3 0,i1 4 (cf AdI [(.t 3)]),i1 5 (.bin .andNot (.t 4) (.c (.int .u64 9223372036854775808))),i1 6 (cf AaO [(.t 5)]),mv 2 6]) (.ret))⟩
def fnG (n:Nat):Option AFunc:=(bif Nat.blt n 74 then (bif Nat.blt n 22 then (bif Nat.blt n 17 then (bif Nat.blt n 14 then (bif Nat.blt n 13 then (bif Nat.beq n 4 then some Ocg else none) else (bif Nat.beq n 13 then some Ank else none)) else (bif Nat.blt n 16 then (bif Nat.beq n 14 then some ArQ else none) else (bif Nat.beq n 16 then some Abs else none))) else (bif Nat.blt n 19 then (bif Nat.blt n 18 then (bif Nat.beq n 17 then some AbU else none) else (bif Nat.beq n 18 then some Akc else none)) else (bif Nat.blt n 20 then (bif Nat.beq n 19 then some Ocb else none) else (bif Nat.blt n 21 then (bif Nat.beq n 20 then some Oca else none) else (bif Nat.beq n 21 then some Aam else none))))) else (bif Nat.blt n 31 then (bif Nat.blt n 24 then (bif Nat.blt n 23 then (bif Nat.beq n 22 then some Abg else none) else (bif Nat.beq n 23 then some AbV else none)) else (bif Nat.blt n 28 then (bif Nat.beq n 24 then some Ahz else none) else (bif Nat.beq n 28 then some AeQ else none))) else (bif Nat.blt n 68 then (bif Nat.blt n 59 then (bif Nat.beq n 31 then some AdN else none) else (bif Nat.beq n 59 then some Apw else none)) else (bif Nat.blt n 70 then (bif Nat.beq n 68 then some Aaj else none) else (bif Nat.blt n 73 then (bif Nat.beq n 70 then some Akk else none) else (bif Nat.beq n 73 then some AfR else none)))))) else (bif Nat.blt n 85 then (bif Nat.blt n 79 then (bif Nat.blt n 77 then (bif Nat.blt n 76 then (bif Nat.beq n 74 then some Abf else none) else (bif Nat.beq n 76 then some Acj else none)) else (bif Nat.blt n 78 then (bif Nat.beq n 77 then some AaJ else none) else (bif Nat.beq n 78 then some AaX else none))) else (bif Nat.blt n 81 then (bif Nat.blt n 80 then (bif Nat.beq n 79 then some Ocf else none) else (bif Nat.beq n 80 then some AfN else none)) else (bif Nat.blt n 82 then (bif Nat.beq n 81 then some AhA else none) else (bif Nat.blt n 84 then (bif Nat.beq n 82 then some AjX else none) else (bif Nat.beq n 84 then some AfS else none))))) else (bif Nat.blt n 142 then (bif Nat.blt n 140 then (bif Nat.blt n 138 then (bif Nat.beq n 85 then some Aak else none) else (bif Nat.beq n 138 then some AbT else none)) else (bif Nat.blt n 141 then (bif Nat.beq n 140 then some Ach else none) else (bif Nat.beq n 141 then some Adq else none))) else (bif Nat.blt n 144 then (bif Nat.blt n 143 then (bif Nat.beq n 142 then some Aea else none) else (bif Nat.beq n 143 then some Abu else none)) else (bif Nat.blt n 145 then (bif Nat.beq n 144 then some Aah else none) else (bif Nat.blt n 204 then (bif Nat.beq n 145 then some Aai else none) else (bif Nat.beq n 204 then some Aad else none)))))))
def pureG (n:Nat):Option (List Zv→Option Zv):=bif Nat.beq n 12 then some (fun l=>match l with
 | []=>some (.bool true)
 | _=>none) else bif Nat.beq n 136 then some AfA else bif Nat.beq n 137 then some BbV else none
def APg:Aaa:={fn:=fnG,keep:=fun n=>Nat.beq n 85 || Nat.beq n 19,split:=fun n=>Nat.beq n 85,share:=fun n=>Nat.beq n 74 || Nat.beq n 20 || Nat.beq n 14,prim:=fun n=>bif Nat.beq n 79 then some growP else none,pure:=pureG,slim:=true}
end Go.Eng.Ga
namespace Go.Eng.Ga
open Go Go.Eng
variable [Inhabited GlobT]
attribute [local irreducible] OpR TL TD TC TS Ak
abbrev fl (w:Nat):Zv := .flt .f64 w
abbrev W64 (w:Nat):Prop:=w<18446744073709551616
theorem Aix (w:Nat) (hw:W64 w):Ak APg AdH [fl w] (.bool (fN w)):=by
 have h:(FloatKind.f64.format.order w w != some .eq)=fN w:=by rw [fo_ne hw hw];simp
 rw [←h]
 refine Al (af:=AfS) rfl rfl ?_
 refine tS (tO (tR 1 rfl (tN (tS (tO (tR 4 rfl ?_))))))
 refine tN ?_;exact tT (AS rfl ⟨_,fzO rfl⟩)
theorem Avw (w:Nat) (hw:W64 w):Ak APg Abq [fl w] (.bool (fN w)):=by
 have h:(FloatKind.f64.format.order w w != some .eq)=fN w:=by rw [fo_ne hw hw];simp
 rw [←h]
 refine Al (af:=Abu) rfl rfl ?_
 refine tS (tO (tR 1 rfl (tN (tS (tO (tR 4 rfl ?_))))))
 refine tN ?_;exact tT (AS rfl ⟨_,fzO rfl⟩)
theorem Azh {w:Nat} (hw:W64 w):W64 (Op.negFloat .f64 w)∧fR (Op.negFloat .f64 w)=fR w∧fS (Op.negFloat .f64 w) = !fS w:=by
 have e:Op.negFloat .f64 w=w ^^^ 2^63:=rfl
 have h1:=Nat.xor_mod_two_pow (a:=w) (b:=2^63) (n:=63)
 have h2:=Nat.xor_div_two_pow (a:=w) (b:=2^63) (n:=63)
 rw [e]
 generalize w ^^^ 2^63=v at *
 have h3:w / 2^63=0∨w / 2^63=1:=by unfold W64 at hw;omega
 have h4:(2:Nat)^63%2^63=0:=by decide
 rw [h4,Nat.xor_zero] at h1
 unfold W64 fR fS
 rcases h3 with h | h
 ·rw [h] at h2
  have h2:v / 2^63=1:=h2
  refine⟨by omega,h1,?_⟩
  rw [decide_eq_true (by omega),decide_eq_false (by omega)];rfl
 ·rw [h] at h2
  have h2:v / 2^63=0:=h2
  refine⟨by omega,h1,?_⟩
  rw [decide_eq_false (by omega),decide_eq_true (by omega)];rfl
theorem fN_neg {w:Nat} (hw:W64 w):fN (Op.negFloat .f64 w)=fN w:=by unfold fN;rw [(Azh hw).2.1]
theorem gt_max {w:Nat} (hw:W64 w):(FloatKind.f64.format.order w 9218868437227405311 == some .gt)=(!fN w && !fS w && decide (fR w=infR)):=by
 rw [Bbd hw (by omega)]
 have h1:fN 9218868437227405311=false:=by decide
 have h2:fK 9218868437227405311=9218868437227405311:=by decide
 rw [h1,h2]
 unfold fK fN infR
 rcases Nat.lt_or_ge 9218868437227405312 (fR w) with h | h
 ·rw [decide_eq_true h];rfl
 ·rw [decide_eq_false (by omega:¬ 9218868437227405312<fR w)]
  cases fS w
  ·simp
   omega
  ·simp
theorem Azu (w:Nat) (hw:W64 w):Ak APg Acz [fl w,.int .i64 1] (.bool (!fN w && !fS w && decide (fR w=infR))):=by
 rw [←gt_max hw]
 refine Al (af:=AdN) rfl rfl ?_
 refine tS (tO (tR 1 rfl (tN (tS (tS (tO ?_))))))
 refine tR 2 rfl (tN ?_);refine AI (t:=false) rfl (fun h=>nomatch h) (fun _=>?_);refine tS (tO ?_)
 refine tR 2 rfl (tN ?_);refine AI (t:=false) rfl (fun h=>nomatch h) (fun _=>?_);refine tK (tS ?_)
 refine tO (tR 3 rfl (tN ?_));exact tT (AS rfl ⟨_,fzO rfl⟩)
theorem isInfM_ok (w:Nat) (hw:W64 w):Ak APg Acz [fl w,.int .i64 (-1)] (.bool (!fN w && fS w && decide (fR w=infR))):=by
 obtain⟨h1,h2,h3⟩:=Azh hw
 have:=gt_max h1
 rw [fN_neg hw,h2,h3,Bool.not_not] at this
 rw [←this]
 refine Al (af:=AdN) rfl rfl ?_
 refine tS (tO (tR 1 rfl (tN (tS (tS (tO ?_))))))
 refine tR 2 rfl (tN ?_);refine AI (t:=false) rfl (fun h=>nomatch h) (fun _=>?_);refine tS (tO ?_)
 refine tR 2 rfl (tN ?_);refine AI (t:=true) rfl (fun _=>?_) (fun h=>nomatch h);refine tO (tR 1 rfl ?_)
 refine tP (o_un rfl rfl) rfl rfl rfl rfl ?_
 refine tR 1 rfl (tN (tS (tO (tR 3 rfl (tN ?_)))))
 exact tT (AS rfl ⟨_,fzO rfl⟩)
theorem Bas (w:Nat) (hw:W64 w):Ak APg AgE [fl w] (.bool (fS w)):=by
 have h:decide (IntKind.wrap .i64 (w:Int)<0)=fS w:=by
  unfold fS
  refine decide_eq_decide.2 ?_
  simp [IntKind.wrap,IntKind.signed,IntKind.bits]
  unfold W64 at hw
  split<;>omega
 rw [←h]
 refine Al (af:=Aea) rfl rfl ?_
 refine tS (tO (tR 1 rfl (tN (tS (tO (tR 2 rfl ?_))))))
 refine tP (Amn rfl) rfl rfl rfl rfl ?_
 refine tR 2 rfl (tN ?_);exact tT (AS rfl ⟨_,fzO rfl⟩)
def kd (w:Nat):Nat:=if fN w then 0 else if fS w then (if fR w=infR then 1 else if fR w=0 then 3 else 2) else (if fR w=infR then 6 else if fR w=0 then 4 else 5)
theorem fo_z (w:Nat) (hw:W64 w):(FloatKind.f64.format.order w 0 == some .lt)=(!fN w && decide (fK w<0))∧(FloatKind.f64.format.order w 0 == some .eq)=(!fN w && decide (fK w=0)):=by
 have h1:fN 0=false:=by decide
 have h2:fK 0=0:=by decide
 rw [fo_lt hw (by omega),fo_eq hw (by omega),h1,h2]
 simp
theorem kind_ok (w:Nat) (hw:W64 w):Ak APg AeH [fl w] (.int .i64 (kd w:Int)):=by
 have hn:=Aix w hw
 have hi:=Azu w hw
 have hm:=isInfM_ok w hw
 have hs:=Bas w hw
 obtain⟨hz,he⟩:=fo_z w hw
 have hR:=fR_lt w
 unfold kd
 by_cases c0:fN w=true
 ·rw [c0] at hn ⊢
  refine Al (af:=AaJ) rfl rfl ?_
  refine tS (tO (tR 1 rfl (tN (tS ?_))));refine tB ?_;refine tS (tO ?_)
  refine tR 1 rfl ?_;refine tC rfl rfl (hn) rfl rfl rfl rfl rfl rfl ?_;refine tR 1 rfl (tN ?_)
  refine AI (t:=true) rfl (fun _=>?_) (fun h=>nomatch h);refine tS (tO (tR 1 rfl (tN ?_)))
  exact tT (AS rfl ⟨_,fzO rfl⟩)
 have c0:fN w=false:=by simpa using c0
 rw [c0] at hn hi hm hz he ⊢
 by_cases c2:fR w=infR
 ·rw [decide_eq_true c2] at hi hm
  cases c1:fS w
  ·rw [c1] at hi hm
   have k:fK w=infR:=by unfold fK;rw [c1,c2];rfl
   rw [k] at hz he
   rw [if_pos c2,if_pos c2]
   refine Al (af:=AaJ) rfl rfl ?_
   refine tS (tO (tR 1 rfl (tN (tS ?_))));refine tB ?_;refine tS (tO ?_)
   refine tR 1 rfl ?_;refine tC rfl rfl (hn) rfl rfl rfl rfl rfl rfl ?_;refine tR 1 rfl (tN ?_)
   refine AI (t:=false) rfl (fun h=>nomatch h) (fun _=>?_);refine tS (tO (tR 1 rfl ?_))
   refine tC rfl rfl (hm) rfl rfl rfl rfl rfl rfl ?_;refine tR 1 rfl (tN ?_)
   refine AI (t:=false) rfl (fun h=>nomatch h) (fun _=>?_);refine tS (tO (tR 3 rfl (tN ?_)))
   rw [show (FloatKind.f64.format.order w 0 == some .lt)=false from hz]
   refine AI (t:=false) rfl (fun h=>nomatch h) (fun _=>?_);refine tS (tO (tR 3 rfl ?_))
   rw [show (FloatKind.f64.format.order w 0 == some .eq)=false from he]
   refine tR 4 rfl (tN ?_);refine AI (t:=false) rfl (fun h=>nomatch h) (fun _=>?_);refine tS (tO ?_)
   refine tR 3 rfl (tN ?_)
   rw [show (FloatKind.f64.format.order w 0 == some .eq)=false from he]
   refine AI (t:=false) rfl (fun h=>nomatch h) (fun _=>?_);refine tS (tO (tR 1 rfl ?_))
   refine tC rfl rfl (hi) rfl rfl rfl rfl rfl rfl ?_;refine tR 1 rfl (tN ?_)
   refine AI (t:=true) rfl (fun _=>?_) (fun h=>nomatch h);refine tS (tO (tR 1 rfl (tN ?_)))
   exact tT (AS rfl ⟨_,fzO rfl⟩)
  ·rw [c1] at hi hm
   rw [if_pos c2,if_pos c2]
   refine Al (af:=AaJ) rfl rfl ?_
   refine tS (tO (tR 1 rfl (tN (tS ?_))));refine tB ?_;refine tS (tO ?_)
   refine tR 1 rfl ?_;refine tC rfl rfl (hn) rfl rfl rfl rfl rfl rfl ?_;refine tR 1 rfl (tN ?_)
   refine AI (t:=false) rfl (fun h=>nomatch h) (fun _=>?_);refine tS (tO (tR 1 rfl ?_))
   refine tC rfl rfl (hm) rfl rfl rfl rfl rfl rfl ?_;refine tR 1 rfl (tN ?_)
   refine AI (t:=true) rfl (fun _=>?_) (fun h=>nomatch h);refine tS (tO (tR 1 rfl (tN ?_)))
   exact tT (AS rfl ⟨_,fzO rfl⟩)
 rw [decide_eq_false c2] at hi hm
 by_cases c3:fR w=0
 ·have k:fK w=0:=by unfold fK;rw [c3];cases fS w<;>rfl
  rw [k] at hz he
  rw [if_neg c2,if_neg c2,if_pos c3,if_pos c3]
  cases c1:fS w
  ·rw [c1] at hi hm hs
   refine Al (af:=AaJ) rfl rfl ?_
   refine tS (tO (tR 1 rfl (tN (tS ?_))));refine tB ?_;refine tS (tO ?_)
   refine tR 1 rfl ?_;refine tC rfl rfl (hn) rfl rfl rfl rfl rfl rfl ?_;refine tR 1 rfl (tN ?_)
   refine AI (t:=false) rfl (fun h=>nomatch h) (fun _=>?_);refine tS (tO (tR 1 rfl ?_))
   refine tC rfl rfl (hm) rfl rfl rfl rfl rfl rfl ?_;refine tR 1 rfl (tN ?_)
   refine AI (t:=false) rfl (fun h=>nomatch h) (fun _=>?_);refine tS (tO (tR 3 rfl (tN ?_)))
   rw [show (FloatKind.f64.format.order w 0 == some .lt)=false from hz]
   refine AI (t:=false) rfl (fun h=>nomatch h) (fun _=>?_);refine tS (tO (tR 3 rfl ?_))
   rw [show (FloatKind.f64.format.order w 0 == some .eq)=true from he]
   refine tR 1 rfl ?_;refine tC rfl rfl (hs) rfl rfl rfl rfl rfl rfl ?_;refine tR 2 rfl (tN ?_)
   refine AI (t:=false) rfl (fun h=>nomatch h) (fun _=>?_);refine tS (tO (tR 3 rfl (tN ?_)))
   rw [show (FloatKind.f64.format.order w 0 == some .eq)=true from he]
   refine AI (t:=true) rfl (fun _=>?_) (fun h=>nomatch h);refine tS (tO (tR 1 rfl (tN ?_)))
   exact tT (AS rfl ⟨_,fzO rfl⟩)
  ·rw [c1] at hi hm hs
   refine Al (af:=AaJ) rfl rfl ?_
   refine tS (tO (tR 1 rfl (tN (tS ?_))));refine tB ?_;refine tS (tO ?_)
   refine tR 1 rfl ?_;refine tC rfl rfl (hn) rfl rfl rfl rfl rfl rfl ?_;refine tR 1 rfl (tN ?_)
   refine AI (t:=false) rfl (fun h=>nomatch h) (fun _=>?_);refine tS (tO (tR 1 rfl ?_))
   refine tC rfl rfl (hm) rfl rfl rfl rfl rfl rfl ?_;refine tR 1 rfl (tN ?_)
   refine AI (t:=false) rfl (fun h=>nomatch h) (fun _=>?_);refine tS (tO (tR 3 rfl (tN ?_)))
   rw [show (FloatKind.f64.format.order w 0 == some .lt)=false from hz]
   refine AI (t:=false) rfl (fun h=>nomatch h) (fun _=>?_);refine tS (tO (tR 3 rfl ?_))
   rw [show (FloatKind.f64.format.order w 0 == some .eq)=true from he]
   refine tR 1 rfl ?_;refine tC rfl rfl (hs) rfl rfl rfl rfl rfl rfl ?_;refine tR 2 rfl (tN ?_)
   refine AI (t:=true) rfl (fun _=>?_) (fun h=>nomatch h);refine tS (tO (tR 1 rfl (tN ?_)))
   exact tT (AS rfl ⟨_,fzO rfl⟩)
 ·rw [if_neg c2,if_neg c2,if_neg c3,if_neg c3]
  cases c1:fS w
  ·rw [c1] at hi hm hs
   have k:¬ fK w<0∧¬ fK w=0:=by unfold fK;rw [c1];simp;omega
   rw [decide_eq_false k.1] at hz
   rw [decide_eq_false k.2] at he
   refine Al (af:=AaJ) rfl rfl ?_
   refine tS (tO (tR 1 rfl (tN (tS ?_))));refine tB ?_;refine tS (tO ?_)
   refine tR 1 rfl ?_;refine tC rfl rfl (hn) rfl rfl rfl rfl rfl rfl ?_;refine tR 1 rfl (tN ?_)
   refine AI (t:=false) rfl (fun h=>nomatch h) (fun _=>?_);refine tS (tO (tR 1 rfl ?_))
   refine tC rfl rfl (hm) rfl rfl rfl rfl rfl rfl ?_;refine tR 1 rfl (tN ?_)
   refine AI (t:=false) rfl (fun h=>nomatch h) (fun _=>?_);refine tS (tO (tR 3 rfl (tN ?_)))
   rw [show (FloatKind.f64.format.order w 0 == some .lt)=false from hz]
   refine AI (t:=false) rfl (fun h=>nomatch h) (fun _=>?_);refine tS (tO (tR 3 rfl ?_))
   rw [show (FloatKind.f64.format.order w 0 == some .eq)=false from he]
   refine tR 4 rfl (tN ?_);refine AI (t:=false) rfl (fun h=>nomatch h) (fun _=>?_);refine tS (tO ?_)
   refine tR 3 rfl (tN ?_)
   rw [show (FloatKind.f64.format.order w 0 == some .eq)=false from he]
   refine AI (t:=false) rfl (fun h=>nomatch h) (fun _=>?_);refine tS (tO (tR 1 rfl ?_))
   refine tC rfl rfl (hi) rfl rfl rfl rfl rfl rfl ?_;refine tR 1 rfl (tN ?_)
   refine AI (t:=false) rfl (fun h=>nomatch h) (fun _=>?_);refine tK (tS (tO (tR 1 rfl ?_)))
   refine tN ?_;exact tT (AS rfl ⟨_,fzO rfl⟩)
  ·rw [c1] at hi hm hs
   have k:fK w<0:=by unfold fK;rw [c1];simp;omega
   rw [decide_eq_true k] at hz
   refine Al (af:=AaJ) rfl rfl ?_
   refine tS (tO (tR 1 rfl (tN (tS ?_))));refine tB ?_;refine tS (tO ?_)
   refine tR 1 rfl ?_;refine tC rfl rfl (hn) rfl rfl rfl rfl rfl rfl ?_;refine tR 1 rfl (tN ?_)
   refine AI (t:=false) rfl (fun h=>nomatch h) (fun _=>?_);refine tS (tO (tR 1 rfl ?_))
   refine tC rfl rfl (hm) rfl rfl rfl rfl rfl rfl ?_;refine tR 1 rfl (tN ?_)
   refine AI (t:=false) rfl (fun h=>nomatch h) (fun _=>?_);refine tS (tO (tR 3 rfl (tN ?_)))
   rw [show (FloatKind.f64.format.order w 0 == some .lt)=true from hz]
   refine AI (t:=true) rfl (fun _=>?_) (fun h=>nomatch h);refine tS (tO (tR 1 rfl (tN ?_)))
   exact tT (AS rfl ⟨_,fzO rfl⟩)
def cmpI (x y:Int):Int:=if x<y then -1 else if y<x then 1 else 0
theorem Atb (x:Int):Ak APg Adl [.int .i64 x] (.bool false):=by
 have h:(x != x)=false:=by simp
 rw [←h]
 refine Al (af:=Adq) rfl rfl ?_
 refine tS (tO (tR 1 rfl (tN (tS (tO (tR 4 rfl ?_))))))
 refine tN ?_;exact tT (AS rfl ⟨_,fzO rfl⟩)
theorem Ayd (x y:Int):Ak APg Aes [.int .i64 x,.int .i64 y] (.int .i64 (cmpI x y)):=by
 have h1:=Atb x
 have h2:=Atb y
 unfold cmpI
 refine Al (af:=Acj) rfl rfl ?_
 refine tS (tO (tR 1 rfl (tN (tS (tO (tR 1 rfl ?_))))))
 refine tC rfl rfl (h1) rfl rfl rfl rfl rfl rfl ?_;refine tR 1 rfl (tN (tS (tO ?_)))
 refine tR 1 rfl ?_;refine tC rfl rfl (h2) rfl rfl rfl rfl rfl rfl ?_;refine tR 1 rfl (tN (tS ?_))
 refine tS (tO (tR 1 rfl (tN ?_)));refine AI (t:=false) rfl (fun h=>nomatch h) (fun _=>?_)
 refine tK (tS (tS (tO (tR 1 rfl (tN ?_)))))
 refine AI (t:=false) rfl (fun h=>nomatch h) (fun _=>?_);refine tK (tS (tS (tO ?_)))
 refine tR 3 rfl (tN ?_)
 refine tQ rfl decide_eq_true_iff (fun h=>?_) (fun h=>?_)
 ·rw [if_pos h];(refine tS (tO (tR 1 rfl (tN ?_)));exact tT (AS rfl ⟨_,fzO rfl⟩))
 rw [if_neg h]
 refine tK (tS (tS (tO (tR 3 rfl (tN ?_)))))
 refine tQ rfl decide_eq_true_iff (fun h=>?_) (fun h=>?_)
 ·rw [if_pos h];(refine tS (tO (tR 1 rfl (tN ?_)));exact tT (AS rfl ⟨_,fzO rfl⟩))
 rw [if_neg h]
 refine tK (tS (tO (tR 1 rfl (tN ?_))));exact tT (AS rfl ⟨_,fzO rfl⟩)
theorem Aye (x y:Nat) (hx:W64 x) (hy:W64 y) (nx:fN x=false) (ny:fN y=false):Ak APg AcA [fl x,fl y] (.int .i64 (cmpI (fK x) (fK y))):=by
 have h1:=Avw x hx
 have h2:=Avw y hy
 have hl:=fo_lt hx hy
 have hg:=Bbd hx hy
 rw [nx] at h1 hl hg
 rw [ny] at h2 hl hg
 unfold cmpI
 refine Al (af:=AaX) rfl rfl ?_
 refine tS (tO (tR 1 rfl (tN (tS (tO (tR 1 rfl ?_))))))
 refine tC rfl rfl (h1) rfl rfl rfl rfl rfl rfl ?_;refine tR 1 rfl (tN (tS (tO ?_)))
 refine tR 1 rfl ?_;refine tC rfl rfl (h2) rfl rfl rfl rfl rfl rfl ?_;refine tR 1 rfl (tN (tS ?_))
 refine tS (tO (tR 1 rfl (tN ?_)));refine AI (t:=false) rfl (fun h=>nomatch h) (fun _=>?_)
 refine tK (tS (tS (tO (tR 1 rfl (tN ?_)))))
 refine AI (t:=false) rfl (fun h=>nomatch h) (fun _=>?_);refine tK (tS (tS (tO ?_)))
 refine tR 3 rfl (tN ?_)
 rw [show (FloatKind.f64.format.order x y == some .lt)=decide (fK x<fK y) from hl]
 refine tQ rfl decide_eq_true_iff (fun h=>?_) (fun h=>?_)
 ·rw [if_pos h];(refine tS (tO (tR 1 rfl (tN ?_)));exact tT (AS rfl ⟨_,fzO rfl⟩))
 rw [if_neg h]
 refine tK (tS (tS (tO (tR 3 rfl (tN ?_)))))
 rw [show (FloatKind.f64.format.order x y == some .gt)=decide (fK y<fK x) from hg]
 refine tQ rfl decide_eq_true_iff (fun h=>?_) (fun h=>?_)
 ·rw [if_pos h];(refine tS (tO (tR 1 rfl (tN ?_)));exact tT (AS rfl ⟨_,fzO rfl⟩))
 rw [if_neg h]
 refine tK (tS (tO (tR 1 rfl (tN ?_))));exact tT (AS rfl ⟨_,fzO rfl⟩)
def cmpF (a b:Nat):Int:=cmpI (fT a) (fT b)
theorem Alo (w:Nat):(fN w=true∧kd w=0∧fT w = -18446744073709551616)∨(fN w=false∧((kd w=1∧fT w = -9218868437227405313∧fK w = -9218868437227405312) ∨
 (kd w=2∧fT w=fK w - 1∧fK w<0 ∧ -9218868437227405312<fK w)∨(kd w=3∧fT w = -1∧fK w=0)∨(kd w=4∧fT w=0∧fK w=0) ∨
 (kd w=5∧fT w=fK w∧0<fK w∧fK w<9218868437227405312)∨(kd w=6∧fT w=9218868437227405312∧fK w=9218868437227405312))):=by
 have hR:=fR_lt w
 unfold kd fT fK
 cases h:fN w
 ·refine .inr ⟨rfl,?_⟩
  have h2:¬ infR<fR w:=by unfold fN at h;simpa using h
  unfold infR at *
  cases fS w<;>simp only [Bool.false_eq_true,if_false,if_true]
  ·by_cases c1:fR w=9218868437227405312
   ·rw [c1];simp
   ·by_cases c2:fR w=0
    ·rw [c2];simp
    ·simp only [if_neg c1,if_neg c2];simp;omega
  ·by_cases c1:fR w=9218868437227405312
   ·rw [c1];simp
   ·by_cases c2:fR w=0
    ·rw [c2];simp
    ·simp only [if_neg c1,if_neg c2];simp;omega
 ·exact .inl ⟨rfl,rfl,rfl⟩
theorem Anb {x y:Int} (h:x<y):cmpI x y = -1:=if_pos h
theorem AjT {x y:Int} (h:y<x):cmpI x y=1:=by unfold cmpI;rw [if_neg (by omega),if_pos h]
theorem ArN {x y:Int} (h:x=y):cmpI x y=0:=by unfold cmpI;rw [if_neg (by omega),if_neg (by omega)]
theorem AyT (a b:Nat):cmpF a b=if cmpI (kd a) (kd b)≠0 then cmpI (kd a) (kd b) else if kd a=0 then 0 else cmpI (fK a) (fK b):=by
 unfold cmpF
 rcases Alo a with⟨_,h1,h2⟩ | ⟨_,ha⟩
 ·rcases Alo b with⟨_,g1,g2⟩ | ⟨_,hb⟩
  ·rw [h1,h2,g1,g2,ArN rfl,ArN rfl];rfl
  ·rw [Anb (by omega),Anb (by omega:(kd a:Int)<kd b)];rfl
 ·rcases Alo b with⟨_,g1,g2⟩ | ⟨_,hb⟩
  ·rw [AjT (by omega),AjT (by omega:(kd b:Int)<kd a)];rfl
  ·rw [if_neg (by omega:¬ kd a=0)]
   rcases Nat.lt_trichotomy (kd a) (kd b) with h | h | h
   ·rw [Anb (by omega),Anb (by omega:(kd a:Int)<kd b)];rfl
   ·rw [ArN (by omega:(kd a:Int)=kd b),if_neg (by decide)]
    have e1:fT a<fT b↔fK a<fK b:=by omega
    have e2:fT b<fT a↔fK b<fK a:=by omega
    unfold cmpI
    simp only [e1,e2]
   ·rw [AjT (by omega),AjT (by omega:(kd b:Int)<kd a)];rfl
theorem kd0 (w:Nat):(kd w=0)↔fN w=true:=by
 rcases Alo w with⟨h,h1,_⟩ | ⟨h,h1⟩
 ·rw [h,h1];simp
 ·rw [h];simp;omega
theorem AkR (a b:Nat) (ha:W64 a) (hb:W64 b):Ak APg Aan [fl a,fl b] (.int .i64 (cmpF a b)):=by
 have h1:=kind_ok a ha
 have h2:=kind_ok b hb
 have h3:=Ayd (kd a) (kd b)
 rw [AyT]
 refine Al (af:=Akc) rfl rfl ?_
 refine tS (tO (tR 1 rfl (tN (tS (tS (tO ?_))))))
 refine tR 1 rfl ?_;refine tC rfl rfl (h1) rfl rfl rfl rfl rfl rfl ?_;refine tR 1 rfl ?_
 refine tC rfl rfl (h2) rfl rfl rfl rfl rfl rfl ?_;refine tC rfl rfl (h3) rfl rfl rfl rfl rfl rfl ?_;refine tR 1 rfl ?_
 refine tN (tS (tO (tR 2 rfl (tN ?_))))
 refine tQ rfl bne_iff_ne (fun h=>?_) (fun h=>tK ?_)
 ·rw [if_pos h];(refine tS (tO (tR 2 rfl (tN ?_)));exact tT (AS rfl ⟨_,fzO rfl⟩))
 rw [if_neg h]
 refine tS (tS (tO (tR 1 rfl ?_)));refine tC rfl rfl (h1) rfl rfl rfl rfl rfl rfl ?_
 refine tR 1 rfl (tN ?_)
 refine tQ rfl beq_iff_eq (fun g=>?_) (fun g=>tK ?_)
 ·rw [if_pos (by omega)];(refine tS (tO (tR 1 rfl (tN ?_)));exact tT (AS rfl ⟨_,fzO rfl⟩))
 rw [if_neg (by omega)]
 have n1:fN a=false:=by
  cases h:fN a
  ·rfl
  ·exact absurd ((kd0 a).2 h) (by omega)
 have n2:fN b=false:=by
  cases h':fN b
  ·rfl
  ·have:=(kd0 b).2 h'
   rw [this] at h
   exact absurd (show cmpI (kd a) ((0:Nat):Int)≠0 by rw [AjT (by omega)];decide) h
 have h4:=Aye a b ha hb n1 n2
 refine tS (tO (tR 2 rfl ?_));refine tC rfl rfl (h4) rfl rfl rfl rfl rfl rfl ?_;refine tR 1 rfl ?_
 refine tN ?_;exact tT (AS rfl ⟨_,fzO rfl⟩)
theorem cmpI_zero (x y:Int):cmpI x y=0↔x=y:=by unfold cmpI;split<;>(try split)<;>omega
def sameF (a b:Nat):Bool:=decide (fT a=fT b)
theorem Aji (a b:Nat) (ha:W64 a) (hb:W64 b):Ak APg Abo [fl a,fl b] (.bool (sameF a b)):=by
 have h1:=AkR a b ha hb
 have e:(cmpF a b == 0)=sameF a b:=by
  unfold sameF cmpF
  rw [Bool.eq_iff_iff];simp [cmpI_zero]
 rw [←e]
 refine Al (af:=Ahz) rfl rfl ?_
 refine tS (tO (tR 1 rfl (tN (tS (tO (tR 2 rfl ?_))))))
 refine tC rfl rfl (h1) rfl rfl rfl rfl rfl rfl ?_;refine tR 2 rfl (tN ?_);exact tT (AS rfl ⟨_,fzO rfl⟩)
end Go.Eng.Ga
namespace Go.Eng.Ga
open Go Go.Eng
variable [Inhabited GlobT]
attribute [local irreducible] OpR TL TD TC TS Ak
theorem Apl {w:Nat} (hw:W64 w):(FloatKind.f64.format.order w w != some .eq)=fN w:=by rw [fo_ne hw hw];simp
theorem fo_zg (w:Nat) (hw:W64 w):(FloatKind.f64.format.order w 0 == some .gt)=(!fN w && decide (0<fK w)):=by
 have h1:fN 0=false:=by decide
 have h2:fK 0=0:=by decide
 rw [Bbd hw (by omega),h1,h2]
 simp
theorem dbl {w:Nat} (hw:W64 w) (hn:fN w=false) (h0:fR w≠0):∃ v,abin .add (fl w) (fl w)=some (fl v)∧(FloatKind.f64.format.order v w == some .eq)=decide (fR w=infR):=by
 obtain⟨r,h1,h2,h3,h4⟩:=add_self hw hn
 refine⟨_,show afltop .add .f64 w w=_ by unfold afltop;rw [h1];rfl,?_⟩
 rw [fo_eq (fword_lt h2) hw,fN_word h2,hn]
 simp only [Bool.not_false,Bool.true_and]
 refine decide_eq_decide.2 ?_
 unfold fK
 rw [fS_word h2,fR_word h2]
 cases fS w<;>simp<;>omega
theorem Bcd {w:Nat} (hw:W64 w) (h:fR w=0):w=if fS w then 9223372036854775808 else 0:=by
 unfold fR at h
 unfold W64 at hw
 unfold fS
 split
 ·rename_i c;simp at c;omega
 ·rename_i c;simp at c;omega
theorem AyQ (w:Nat) (hw:W64 w):Ak APg Ajx [fl w] (.int .i64 (kd w:Int)):=by
 have hn:=Apl hw
 obtain⟨hz,he⟩:=fo_z w hw
 have hg:=fo_zg w hw
 unfold kd
 by_cases c0:fN w=true
 ·rw [c0] at hn ⊢
  refine Al (af:=Ach) rfl rfl ?_
  refine tS (tO (tR 1 rfl (tN (tS (tS (tO ?_))))))
  refine tR 3 rfl (tN ?_)
  rw [hn]
  refine AI (t:=true) rfl (fun _=>?_) (fun h=>nomatch h);refine tS (tO (tR 1 rfl (tN ?_)))
  exact tT (AS rfl ⟨_,fzO rfl⟩)
 have c0:fN w=false:=by simpa using c0
 rw [c0] at hn hz he hg ⊢
 by_cases c3:fR w=0
 ·have k:fK w=0:=by unfold fK;rw [c3];cases fS w<;>rfl
  have i0:¬ fR w=infR:=by rw [c3];decide
  rw [k] at hz hg
  have hw0:=Bcd hw c3
  rw [if_neg i0,if_neg i0,if_pos c3,if_pos c3]
  cases c1:fS w
  ·rw [c1] at hw0
   have hw0:w=0:=hw0
   have hq:abin .quo (.flt .f64 4607182418800017408) (fl w)=some (fl 9218868437227405312):=by rw [hw0];kernel_rfl
   refine Al (af:=Ach) rfl rfl ?_
   refine tS (tO (tR 1 rfl (tN (tS (tS (tO ?_))))))
   refine tR 3 rfl (tN ?_)
   rw [hn]
   refine AI (t:=false) rfl (fun h=>nomatch h) (fun _=>?_);refine tK (tS (tS (tO ?_)))
   refine tR 2 rfl (tN ?_)
   rw [show (FloatKind.f64.format.order w 0 == some .lt)=false from hz]
   refine AI (t:=false) rfl (fun h=>nomatch h) (fun _=>?_);refine tK (tS (tS (tO ?_)))
   refine tR 2 rfl (tN ?_)
   rw [show (FloatKind.f64.format.order w 0 == some .gt)=false from hg]
   refine AI (t:=false) rfl (fun h=>nomatch h) (fun _=>?_);refine tK (tS (tS (tO ?_)))
   refine tR 1 rfl ?_
   refine tP (oB (v:=fl 9218868437227405312) rfl rfl hq) rfl rfl rfl rfl ?_
   refine tR 1 rfl (tN ?_);refine AI (t:=false) rfl (fun h=>nomatch h) (fun _=>?_);refine tK (tS ?_)
   refine tO (tR 1 rfl (tN ?_));exact tT (AS rfl ⟨_,fzO rfl⟩)
  ·rw [c1] at hw0
   have hw0:w=9223372036854775808:=hw0
   have hq:abin .quo (.flt .f64 4607182418800017408) (fl w)=some (fl 18442240474082181120):=by rw [hw0];kernel_rfl
   refine Al (af:=Ach) rfl rfl ?_
   refine tS (tO (tR 1 rfl (tN (tS (tS (tO ?_))))))
   refine tR 3 rfl (tN ?_)
   rw [hn]
   refine AI (t:=false) rfl (fun h=>nomatch h) (fun _=>?_);refine tK (tS (tS (tO ?_)))
   refine tR 2 rfl (tN ?_)
   rw [show (FloatKind.f64.format.order w 0 == some .lt)=false from hz]
   refine AI (t:=false) rfl (fun h=>nomatch h) (fun _=>?_);refine tK (tS (tS (tO ?_)))
   refine tR 2 rfl (tN ?_)
   rw [show (FloatKind.f64.format.order w 0 == some .gt)=false from hg]
   refine AI (t:=false) rfl (fun h=>nomatch h) (fun _=>?_);refine tK (tS (tS (tO ?_)))
   refine tR 1 rfl ?_
   refine tP (oB (v:=fl 18442240474082181120) rfl rfl hq) rfl rfl rfl rfl ?_
   refine tR 1 rfl (tN ?_);refine AI (t:=true) rfl (fun _=>?_) (fun h=>nomatch h);refine tS (tO ?_)
   refine tR 1 rfl (tN ?_);exact tT (AS rfl ⟨_,fzO rfl⟩)
 ·obtain⟨v,hd,hq⟩:=dbl hw c0 c3
  rw [if_neg c3,if_neg c3]
  cases c1:fS w
  ·have k:¬ fK w<0∧0<fK w:=by unfold fK;rw [c1];simp;omega
   rw [decide_eq_false k.1] at hz
   rw [decide_eq_true k.2] at hg
   refine Al (af:=Ach) rfl rfl ?_
   refine tS (tO (tR 1 rfl (tN (tS (tS (tO ?_))))))
   refine tR 3 rfl (tN ?_)
   rw [hn]
   refine AI (t:=false) rfl (fun h=>nomatch h) (fun _=>?_);refine tK (tS (tS (tO ?_)))
   refine tR 2 rfl (tN ?_)
   rw [show (FloatKind.f64.format.order w 0 == some .lt)=false from hz]
   refine AI (t:=false) rfl (fun h=>nomatch h) (fun _=>?_);refine tK (tS (tS (tO ?_)))
   refine tR 2 rfl (tN ?_)
   rw [show (FloatKind.f64.format.order w 0 == some .gt)=true from hg]
   refine AI (t:=true) rfl (fun _=>?_) (fun h=>nomatch h);refine tS (tS (tO (tR 2 rfl ?_)))
   refine tP (oB (v:=fl v) rfl rfl hd) rfl rfl rfl rfl ?_
   refine tR 2 rfl (tN ?_)
   rw [hq]
   refine tQ rfl decide_eq_true_iff (fun h=>?_) (fun h=>tK ?_)
   ·rw [if_pos h,if_pos h]
    refine tS (tO (tR 1 rfl (tN ?_)));exact tT (AS rfl ⟨_,fzO rfl⟩)
   ·rw [if_neg h,if_neg h]
    refine tS (tO (tR 1 rfl (tN ?_)));exact tT (AS rfl ⟨_,fzO rfl⟩)
  ·have k:fK w<0:=by unfold fK;rw [c1];simp;omega
   rw [decide_eq_true k] at hz
   refine Al (af:=Ach) rfl rfl ?_
   refine tS (tO (tR 1 rfl (tN (tS (tS (tO ?_))))))
   refine tR 3 rfl (tN ?_)
   rw [hn]
   refine AI (t:=false) rfl (fun h=>nomatch h) (fun _=>?_);refine tK (tS (tS (tO ?_)))
   refine tR 2 rfl (tN ?_)
   rw [show (FloatKind.f64.format.order w 0 == some .lt)=true from hz]
   refine AI (t:=true) rfl (fun _=>?_) (fun h=>nomatch h);refine tS (tS (tO (tR 2 rfl ?_)))
   refine tP (oB (v:=fl v) rfl rfl hd) rfl rfl rfl rfl ?_
   refine tR 2 rfl (tN ?_)
   rw [hq]
   refine tQ rfl decide_eq_true_iff (fun h=>?_) (fun h=>tK ?_)
   ·rw [if_pos h]
    refine tS (tO (tR 1 rfl (tN ?_)));exact tT (AS rfl ⟨_,fzO rfl⟩)
   ·rw [if_neg h]
    refine tS (tO (tR 1 rfl (tN ?_)));exact tT (AS rfl ⟨_,fzO rfl⟩)
theorem rcmp_ok (a b:Nat) (ha:W64 a) (hb:W64 b):Ak APg AmF [fl a,fl b] (.int .i64 (cmpF a b)):=by
 have h1:=AyQ a ha
 have h2:=AyQ b hb
 have hl:=fo_lt ha hb
 have hg:=Bbd ha hb
 rw [AyT]
 rcases Nat.lt_trichotomy (kd a) (kd b) with h | h | h
 ·rw [Anb (by omega),if_pos (by decide)]
  refine Al (af:=AfR) rfl rfl ?_
  refine tS (tO (tR 1 rfl (tN (tS (tO (tR 1 rfl ?_))))))
  refine tC rfl rfl (h1) rfl rfl rfl rfl rfl rfl ?_;refine tR 1 rfl ?_;refine tC rfl rfl (h2) rfl rfl rfl rfl rfl rfl ?_
  refine tR 2 rfl (tN (tS (tS (tO (tR 4 rfl ?_)))))
  rw [show decide ((kd a:Int)<(kd b:Int))=true from decide_eq_true (by omega)]
  refine tR 9 rfl (tN ?_);refine AI (t:=true) rfl (fun _=>?_) (fun h=>nomatch h);refine tS (tO ?_)
  refine tR 1 rfl (tN ?_);exact tT (AS rfl ⟨_,fzO rfl⟩)
 ·rw [ArN (by omega),if_neg (by decide)]
  rw [h]
  rw [h] at h1
  refine Al (af:=AfR) rfl rfl ?_
  refine tS (tO (tR 1 rfl (tN (tS (tO (tR 1 rfl ?_))))))
  refine tC rfl rfl (h1) rfl rfl rfl rfl rfl rfl ?_;refine tR 1 rfl ?_;refine tC rfl rfl (h2) rfl rfl rfl rfl rfl rfl ?_
  refine tR 2 rfl (tN (tS (tS (tO (tR 4 rfl ?_)))))
  rw [show decide ((kd b:Int)<(kd b:Int))=false from decide_eq_false (by omega)]
  refine tR 4 rfl ?_
  rw [show ((kd b:Int) == (kd b:Int))=true from beq_self_eq_true _]
  refine tR 5 rfl (tN ?_)
  by_cases c0:kd b=0
  ·have n1:=(kd0 a).1 (by omega)
   have n2:=(kd0 b).1 c0
   rw [n1] at hl hg
   rw [if_pos c0]
   rw [show (FloatKind.f64.format.order a b == some .lt)=false from hl]
   refine AI (t:=false) rfl (fun h=>nomatch h) (fun _=>?_);refine tK (tS (tS (tO ?_)))
   refine tR 4 rfl ?_
   rw [show decide ((kd b:Int)>(kd b:Int))=false from decide_eq_false (by omega)]
   refine tR 4 rfl (tN ?_)
   rw [show (FloatKind.f64.format.order a b == some .gt)=false from hg]
   refine AI (t:=false) rfl (fun h=>nomatch h) (fun _=>?_);refine tK (tS (tO (tR 1 rfl ?_)))
   refine tN ?_;exact tT (AS rfl ⟨_,fzO rfl⟩)
  ·have n1:fN a=false:=by
    cases g:fN a
    ·rfl
    ·exact absurd ((kd0 a).2 g) (by omega)
   have n2:fN b=false:=by
    cases g:fN b
    ·rfl
    ·exact absurd ((kd0 b).2 g) (by omega)
   rw [n1,n2] at hl hg
   rw [if_neg c0]
   rw [show (FloatKind.f64.format.order a b == some .lt)=decide (fK a<fK b) from hl]
   unfold cmpI
   refine tQ rfl decide_eq_true_iff (fun g=>?_) (fun g=>tK ?_)
   ·rw [if_pos g];(refine tS (tO (tR 1 rfl (tN ?_)));exact tT (AS rfl ⟨_,fzO rfl⟩))
   rw [if_neg g]
   refine tS (tS (tO (tR 4 rfl ?_)))
   rw [show decide ((kd b:Int)>(kd b:Int))=false from decide_eq_false (by omega)]
   refine tR 4 rfl (tN ?_)
   rw [show (FloatKind.f64.format.order a b == some .gt)=decide (fK b<fK a) from hg]
   refine tQ rfl decide_eq_true_iff (fun g=>?_) (fun g=>tK ?_)
   ·rw [if_pos g];(refine tS (tO (tR 1 rfl (tN ?_)));exact tT (AS rfl ⟨_,fzO rfl⟩))
   rw [if_neg g]
   refine tS (tO (tR 1 rfl (tN ?_)));exact tT (AS rfl ⟨_,fzO rfl⟩)
 ·rw [AjT (by omega),if_pos (by decide)]
  refine Al (af:=AfR) rfl rfl ?_
  refine tS (tO (tR 1 rfl (tN (tS (tO (tR 1 rfl ?_))))))
  refine tC rfl rfl (h1) rfl rfl rfl rfl rfl rfl ?_;refine tR 1 rfl ?_;refine tC rfl rfl (h2) rfl rfl rfl rfl rfl rfl ?_
  refine tR 2 rfl (tN (tS (tS (tO (tR 4 rfl ?_)))))
  rw [show decide ((kd a:Int)<(kd b:Int))=false from decide_eq_false (by omega)]
  refine tR 4 rfl ?_
  rw [show ((kd a:Int) == (kd b:Int))=false from by simp;omega]
  refine tR 5 rfl (tN ?_);refine AI (t:=false) rfl (fun h=>nomatch h) (fun _=>?_);refine tK (tS ?_)
  refine tS (tO (tR 4 rfl ?_))
  rw [show decide ((kd a:Int)>(kd b:Int))=true from decide_eq_true (by omega)]
  refine tR 4 rfl (tN ?_);refine AI (t:=true) rfl (fun _=>?_) (fun h=>nomatch h);refine tS (tO ?_)
  refine tR 1 rfl (tN ?_);exact tT (AS rfl ⟨_,fzO rfl⟩)
end Go.Eng.Ga
namespace Go.Eng.Ga
open Go Go.Eng
variable [Inhabited GlobT]
attribute [local irreducible] OpR TL TD TC TS Ak
abbrev u6 (n:Nat):Zv := .int .u64 (n:Int)
abbrev en (E:List Nat):List (List Zv):=E.map fun w=>[fl w]
abbrev eu (C:List Nat):List (List Zv):=C.map fun n=>[u6 n]
@[simp] theorem AmQ (L:List Nat):Ao (en L)=true:=cLLm (fun _=>rfl) _
@[simp] theorem Alt (L:List Nat):Aab (en L)=true:=nLLm (fun _=>rfl) _
@[simp] theorem AmM (L:List Nat):Ao (eu L)=true:=cLLm (fun _=>rfl) _
abbrev gc (E C:List Nat) (n a lo hi:Nat):List Zv:=[.imm (en E),.imm (eu C),u6 n,u6 a,fl lo,fl hi]
abbrev gv (E C:List Nat) (n a lo hi:Nat):Zv := .agg (gc E C n a lo hi)
theorem Apz (x y:Nat) (h:x+y<18446744073709551616):Ak APg Aju [u6 x,u6 y] (u6 (x+y)):=by
 refine Al (af:=AjX) rfl rfl ?_
 refine tS (tO (tR 1 rfl (tN (tS (tS (tO ?_))))))
 refine tR 2 rfl ?_;refine tP (o_subu (a:=18446744073709551615) rfl rfl (by omega) (AaA (by omega))) rfl rfl rfl rfl ?_
 refine tR 1 rfl (tN ?_)
 refine tQ rfl decide_eq_true_iff (fun h=>?_) (fun h=>?_)
 ·exfalso;omega
 ·refine tK (tS (tO (tR 2 rfl ?_)));refine tP (Ait rfl rfl (AaA (by omega))) rfl rfl rfl rfl ?_
  refine tR 1 rfl (tN ?_);exact tT (AS rfl ⟨_,fzO rfl⟩)
theorem nan_ok:Ak APg AbB [] (fl 9221120237041090561):=by
 refine Al (af:=Akk) rfl rfl ?_
 refine tS (tO (tR 1 rfl (tN (tS (tO (tR 2 rfl ?_))))))
 refine tN ?_;exact tT (AS rfl ⟨_,fzO rfl⟩)
theorem total_ok (E C:List Nat) (n a lo hi:Nat):Ak APg Adk [gv E C n a lo hi] (u6 a):=by
 refine Al (af:=Abs) rfl rfl ?_
 refine tS (tO (tR 2 rfl (tN (tS (tO (tR 3 rfl ?_))))))
 refine tN ?_;exact tT (AS rfl ⟨_,fzO rfl⟩)
theorem none_ok (E C:List Nat) (n a lo hi:Nat):Ak APg AdL [gv E C n a lo hi] (u6 n):=by
 refine Al (af:=AbV) rfl rfl ?_
 refine tS (tO (tR 2 rfl (tN (tS (tO (tR 3 rfl ?_))))))
 refine tN ?_;exact tT (AS rfl ⟨_,fzO rfl⟩)
def spanV (a lo hi:Nat):List Zv:=if a=0 then [fl 9221120237041090561,fl 9221120237041090561] else [fl lo,fl hi]
theorem span_ok (E C:List Nat) (n a lo hi:Nat):Ak APg AdK [gv E C n a lo hi] (.tuple (spanV a lo hi)):=by
 have h:=nan_ok
 unfold spanV
 refine Al (af:=AbU) rfl rfl ?_
 refine tS (tO (tR 3 rfl (tN (tS (tS (tO ?_))))))
 refine tR 3 rfl (tN ?_)
 refine tQ rfl beq_iff_eq (fun g=>?_) (fun g=>tK ?_)
 ·rw [if_pos (by omega)]
  refine tS (tO ?_);refine tC rfl rfl (h) rfl rfl rfl rfl rfl rfl ?_;refine tC rfl rfl (h) rfl rfl rfl rfl rfl rfl ?_
  refine tR 2 rfl (tN ?_);exact tT (AS rfl ⟨_,fzO rfl⟩)
 ·rw [if_neg (by omega)]
  refine tS ?_;refine tD0 rfl ?_;refine dR 6 rfl (dN ?_);refine⟨rfl,?_⟩;exact tT (AS rfl ⟨_,fzO rfl⟩)
end Go.Eng.Ga
namespace Go.Eng.Ga
open Go Go.Eng
variable [Inhabited GlobT]
attribute [local irreducible] OpR TL TD TC TS Ak
structure OkE (E:List Nat):Prop where
 w:∀ x∈E,W64 x
 n:∀ x∈E,fN x=false
 s:∀ i j,i<j→j<E.length→fT (E.getD i 0)<fT (E.getD j 0)
theorem OkE.g {E:List Nat} (h:OkE E) (i:Nat):W64 (E.getD i 0):=by
 rw [List.getD_eq_getElem?_getD]
 cases hi:E[i]? with
 | none=>simp
 | some x=>exact h.w x (List.mem_of_getElem? hi)
def stepN (E:List Nat) (x:Nat):Nat:=E.findIdx fun e=>decide (fT x≤fT e)
theorem ApL (E:List Nat) (x:Nat):stepN E x≤E.length:=List.findIdx_le_length
theorem ApM {E:List Nat} {x i:Nat} (hi:i≤E.length) (h1:∀ k,k<i→fT (E.getD k 0)<fT x) (h2:i<E.length→fT x≤fT (E.getD i 0)):stepN E x=i:=by
 unfold stepN
 have hg:∀ k (hk:k<E.length),E.getD k 0=E[k]:=fun k hk=>by simp [List.getD_eq_getElem?_getD,hk]
 rcases Nat.lt_or_ge i E.length with h | h
 ·refine(List.findIdx_eq h).2 ⟨?_,?_⟩
  ·rw [←hg i h];exact decide_eq_true (h2 h)
  ·intro j hj
   rw [←hg j (by omega)];exact decide_eq_false (by have:=h1 j hj;omega)
 ·have:i=E.length:=by omega
  subst this
  refine List.findIdx_eq_length.2 fun e he=>?_
  obtain⟨k,hk,rfl⟩:=List.getElem_of_mem he
  rw [←hg k hk]
  have:=h1 k hk
  exact decide_eq_false (by omega)
theorem shr1 (n:Nat):abin .shr (.int .u64 (n:Int)) (.int .u64 1)=some (.int .u64 ((n / 2:Nat):Int)):=by
 have h:IntKind.bits .u64=64:=rfl
 show Anw .shr .u64 (n:Int) 1=_
 unfold Anw
 rw [if_neg (by decide)]
 simp only [h]
 rw [show ((1:Int).toNat)=1 from rfl,show min 1 64=1 from rfl,Int.fdiv_eq_ediv_of_nonneg _ (by decide)]
 rfl
theorem Ayg {a b:Nat}:decide (cmpF a b<0)=decide (fT a<fT b):=by
 unfold cmpF cmpI
 refine decide_eq_decide.2 ?_
 split
 ·simp;assumption
 ·split<;>simp<;>omega
theorem OkE.m {E:List Nat} (h:OkE E) {i j:Nat} (hij:i≤j) (hj:j<E.length):fT (E.getD i 0)≤fT (E.getD j 0):=by
 rcases Nat.lt_or_ge i j with g | g
 ·exact Int.le_of_lt (h.s i j g hj)
 ·have:i=j:=by omega
  subst this;exact Int.le_refl _
theorem bsf_ok (E:List Nat) (h:OkE E) (hl:E.length<4294967296) (x:Nat) (hx:W64 x) :
 ∃ b,Ak APg Aag [.imm (en E),fl x,.fn (.func Aan) [] []] (.tuple [.int .i64 (stepN E x:Int),.bool b]):=by
 have hc:∀ i,Ak APg Aan [fl (E.getD i 0),fl x] (.int .i64 (cmpF (E.getD i 0) x)):=fun i=>AkR _ _ (h.g i) hx
 have hle:(en E).length=E.length:=List.length_map _
 refine⟨if stepN E x<E.length then cmpF (E.getD (stepN E x) 0) x == 0 else false,?_⟩
 refine Al (af:=Aad) rfl rfl ?_
 refine tS (tO (tR 2 rfl (tN (tS (tO (tR 3 rfl ?_))))))
 refine tN (tS (tO (tR 3 rfl (tN (tS ?_)))))
 refine tB (lST (σ:=Nat × Nat) (fun s=>s.2 - s.1) (fun s=>[(0,.imm (en E)),(1,fl x),(2,.fn (.func Aan) [] []),(6,.int .i64 0),(7,.bool false),(8,.int .i64 ((en E).length:Int)),(9,.int .i64 (s.1:Int)),(10,.int .i64 (s.2:Int))])
  (fun s S=>s.1≤s.2∧s.2≤E.length∧(∀ k,k<s.1→fT (E.getD k 0)<fT x)∧∀ k,s.2≤k→k<E.length→fT x≤fT (E.getD k 0)) (0,(en E).length) (by (repeat' (first | exact wN | refine wC rfl ?_))) ⟨by omega,by omega,fun k hk=>absurd hk (by omega),fun k h1 h2=>by omega⟩ ?_)
 rintro⟨i,j⟩ S ⟨hij,hj,h1,h2⟩
 dsimp only at hij hj h1 h2 ⊢
 refine tS (tS (tO (tR 3 rfl (tN ?_))))
 refine tQ rfl decide_eq_true_iff (fun c=>tK ?_) (fun c=>tX ?_)
 ·have c:i<j:=by omega
  refine tB ?_;refine tS (tO (tR 2 rfl ?_));refine tP (oA rfl rfl (by omega)) rfl rfl rfl rfl ?_
  refine tP (Afv rfl (AaA (by omega))) rfl rfl rfl rfl ?_
  refine tP (oB rfl rfl (shr1 _)) rfl rfl rfl rfl ?_
  refine tP (Afv rfl (AcV (by omega))) rfl rfl rfl rfl ?_;refine tR 1 rfl (tN (tS (tO ?_)))
  refine tR 3 rfl ?_;refine tP (Bl rfl rfl (AQ (d:=0) (by omega)) rfl) rfl rfl rfl rfl ?_;refine tR 2 rfl ?_
  have hm:(i+j) / 2<E.length:=by omega
  have hcm:=hc ((i+j) / 2)
  refine AhR rfl rfl rfl hcm rfl rfl rfl rfl rfl rfl ?_
  refine tR 1 rfl (tN ?_)
  rw [Ayg]
  refine tQ rfl decide_eq_true_iff (fun g=>?_) (fun g=>?_)
  ·refine tO (tR 1 rfl ?_);refine tP (oA (b:=1) rfl rfl (by omega)) rfl rfl rfl rfl ?_;refine tR 1 rfl ?_
   refine tN ?_
   refine⟨((i+j) / 2+1,j),by simp only;omega,by (repeat' (first | exact wN | refine wC rfl ?_)),by simp only;omega,by simp only;omega,?_,h2⟩
   intro k hk
   have:=h.m (i:=k) (j:=(i+j) / 2) (by simp only at hk;omega) hm
   omega
  ·refine tO (tR 2 rfl (tN ?_))
   refine⟨(i,(i+j) / 2),by simp only;omega,by (repeat' (first | exact wN | refine wC rfl ?_)),by simp only;omega,by simp only;omega,h1,?_⟩
   intro k hk hk2
   have:=h.m (i:=(i+j) / 2) (j:=k) hk hk2
   omega
 ·have c:i=j:=by omega
  subst c
  have e:=ApM hj h1 (fun hi=>h2 i (Nat.le_refl _) hi)
  rw [e]
  by_cases hi:i<E.length
  ·have hci:=hc i
   rw [if_pos hi]
   refine tS (tO (tR 5 rfl ?_))
   rw [show decide ((i:Int)<((en E).length:Int))=true from decide_eq_true (by omega)]
   refine tR 3 rfl ?_;refine tP (Bl rfl rfl (AQ (d:=0) (by omega)) rfl) rfl rfl rfl rfl ?_;refine tR 2 rfl ?_
   refine AhR rfl rfl rfl hci rfl rfl rfl rfl rfl rfl ?_
   refine tR 4 rfl (tN ?_);exact tT (AS rfl ⟨_,fzO rfl⟩)
  ·rw [if_neg hi]
   refine tS (tO (tR 5 rfl ?_))
   rw [show decide ((i:Int)<((en E).length:Int))=false from decide_eq_false (by omega)]
   refine tR 6 rfl ?_
   refine AlG rfl rfl ?_
   refine tR 4 rfl (tN ?_);exact tT (AS rfl ⟨_,fzO rfl⟩)
end Go.Eng.Ga
namespace Go.Eng.Ga
open Go Go.Eng
variable [Inhabited GlobT]
attribute [local irreducible] OpR TL TD TC TS Ak
theorem AvI (E C:List Nat) (n a lo hi:Nat) (h:OkE E) (hl:E.length<4294967296) (x:Nat) (hx:W64 x):Ak APg AdJ [gv E C n a lo hi,fl x] (.int .i64 (stepN E x:Int)):=by
 obtain⟨b,hb⟩:=bsf_ok E h hl x hx
 refine Al (af:=AbT) rfl rfl ?_
 refine tS (tO (tR 2 rfl (tN (tS (tO (tR 3 rfl ?_))))))
 refine tC rfl (by simp [Zv.closed,Aj,Ao,cLm,cLLm]) (hb) (by simp [Zv.noref,Zv.flat,norefL,Aab,nLm,nLLm]) rfl rfl rfl rfl rfl ?_
 refine tR 5 rfl (tN (tS (tO (tR 2 rfl (tN ?_)))))
 exact tT (AS rfl ⟨_,fzO rfl⟩)
def minF (a b:Nat):Nat:=if fT b<fT a then b else a
def maxF (a b:Nat):Nat:=if fT a<fT b then b else a
theorem Ayf {a b:Nat}:decide (cmpF a b>0)=decide (fT b<fT a):=by
 unfold cmpF cmpI
 refine decide_eq_decide.2 ?_
 split
 ·simp;omega
 ·split<;>simp<;>omega
theorem BaT (a b:Nat) (ha:W64 a) (hb:W64 b):Ak APg AaC [.imm [[fl a],[fl b]],.fn (.func Aan) [] []] (fl (minF a b)):=by
 have hc:=AkR b a hb ha
 refine Al (af:=Aah) rfl rfl ?_
 refine tS (tO (tR 1 rfl (tN (tS (tS (tO ?_))))))
 refine tR 3 rfl (tN ?_);refine AI (t:=false) rfl (fun h=>nomatch h) (fun _=>?_);refine tK (tS ?_)
 refine tO (tR 4 rfl (tN (tS (tS (tO (tR 1 rfl ?_))))))
 refine tN ?_
 refine tB (Aal ?_)
 refine tS (tS (tO (tR 4 rfl (tN ?_))))
 refine AI (t:=true) rfl (fun _=>?_) (fun h=>nomatch h);refine tK (tS ?_);refine tB ?_;refine tS ?_
 refine tO (tR 6 rfl ?_)
 refine AhR rfl rfl rfl hc rfl rfl rfl rfl rfl rfl ?_
 refine tR 1 rfl (tN ?_)
 rw [Ayg]
 unfold minF
 refine tQ rfl decide_eq_true_iff (fun g=>?_) (fun g=>tK ?_)
 ·rw [if_pos g]
  refine tO (tR 5 rfl (tN (tO (tR 1 rfl ?_))))
  refine tP (oB (v := .int .i64 2) rfl rfl rfl) rfl rfl rfl rfl ?_;refine tR 1 rfl (tN ?_)
  refine Aal ?_
  refine tS (tS (tO (tR 4 rfl (tN ?_))))
  refine AI (t:=false) rfl (fun h=>nomatch h) (fun _=>?_);refine tX ?_;refine tS (tO (tR 2 rfl ?_))
  refine tN ?_;exact tT (AS rfl ⟨_,fzO rfl⟩)
 ·rw [if_neg g]
  refine tO (tR 1 rfl ?_);refine tP (oB (v := .int .i64 2) rfl rfl rfl) rfl rfl rfl rfl ?_;refine tR 1 rfl ?_
  refine tN ?_
  refine Aal ?_
  refine tS (tS (tO (tR 4 rfl (tN ?_))))
  refine AI (t:=false) rfl (fun h=>nomatch h) (fun _=>?_);refine tX ?_;refine tS (tO (tR 2 rfl ?_))
  refine tN ?_;exact tT (AS rfl ⟨_,fzO rfl⟩)
theorem BaU (a b:Nat) (ha:W64 a) (hb:W64 b):Ak APg AaD [.imm [[fl a],[fl b]],.fn (.func Aan) [] []] (fl (maxF a b)):=by
 have hc:=AkR b a hb ha
 refine Al (af:=Aai) rfl rfl ?_
 refine tS (tO (tR 1 rfl (tN (tS (tS (tO ?_))))))
 refine tR 3 rfl (tN ?_);refine AI (t:=false) rfl (fun h=>nomatch h) (fun _=>?_);refine tK (tS ?_)
 refine tO (tR 4 rfl (tN (tS (tS (tO (tR 1 rfl ?_))))))
 refine tN ?_
 refine tB (Aal ?_)
 refine tS (tS (tO (tR 4 rfl (tN ?_))))
 refine AI (t:=true) rfl (fun _=>?_) (fun h=>nomatch h);refine tK (tS ?_);refine tB ?_;refine tS ?_
 refine tO (tR 6 rfl ?_)
 refine AhR rfl rfl rfl hc rfl rfl rfl rfl rfl rfl ?_
 refine tR 1 rfl (tN ?_)
 rw [Ayf]
 unfold maxF
 refine tQ rfl decide_eq_true_iff (fun g=>?_) (fun g=>tK ?_)
 ·rw [if_pos g]
  refine tO (tR 5 rfl (tN (tO (tR 1 rfl ?_))))
  refine tP (oB (v := .int .i64 2) rfl rfl rfl) rfl rfl rfl rfl ?_;refine tR 1 rfl (tN ?_)
  refine Aal ?_
  refine tS (tS (tO (tR 4 rfl (tN ?_))))
  refine AI (t:=false) rfl (fun h=>nomatch h) (fun _=>?_);refine tX ?_;refine tS (tO (tR 2 rfl ?_))
  refine tN ?_;exact tT (AS rfl ⟨_,fzO rfl⟩)
 ·rw [if_neg g]
  refine tO (tR 1 rfl ?_);refine tP (oB (v := .int .i64 2) rfl rfl rfl) rfl rfl rfl rfl ?_;refine tR 1 rfl ?_
  refine tN ?_
  refine Aal ?_
  refine tS (tS (tO (tR 4 rfl (tN ?_))))
  refine AI (t:=false) rfl (fun h=>nomatch h) (fun _=>?_);refine tX ?_;refine tS (tO (tR 2 rfl ?_))
  refine tN ?_;exact tT (AS rfl ⟨_,fzO rfl⟩)
theorem least_ok (a b:Nat) (ha:W64 a) (hb:W64 b):Ak APg AkK [.imm [[fl a],[fl b]]] (fl (minF a b)):=by
 have h:=BaT a b ha hb
 refine Al (af:=AfN) rfl rfl ?_
 refine tS (tO (tR 1 rfl (tN (tS (tS (tO ?_))))))
 refine tR 3 rfl (tN ?_);refine AI (t:=false) rfl (fun h=>nomatch h) (fun _=>?_);refine tK (tS ?_)
 refine tO (tR 1 rfl ?_);refine tC rfl rfl (h) rfl rfl rfl rfl rfl rfl ?_;refine tR 1 rfl (tN ?_)
 exact tT (AS rfl ⟨_,fzO rfl⟩)
theorem most_ok (a b:Nat) (ha:W64 a) (hb:W64 b):Ak APg AmB [.imm [[fl a],[fl b]]] (fl (maxF a b)):=by
 have h:=BaU a b ha hb
 refine Al (af:=AhA) rfl rfl ?_
 refine tS (tO (tR 1 rfl (tN (tS (tS (tO ?_))))))
 refine tR 3 rfl (tN ?_);refine AI (t:=false) rfl (fun h=>nomatch h) (fun _=>?_);refine tK (tS ?_)
 refine tO (tR 1 rfl ?_);refine tC rfl rfl (h) rfl rfl rfl rfl rfl rfl ?_;refine tR 1 rfl (tN ?_)
 exact tT (AS rfl ⟨_,fzO rfl⟩)
def fillC (E C:List Nat):List Nat:=C++List.replicate (E.length+1 - C.length) 0
theorem AwJ (C:List Nat):(((eu C).take C.length).all fun r=>r.all An)=true:=by
 rw [List.all_eq_true]
 intro r hr
 obtain⟨n,-,rfl⟩:=List.mem_map.1 (List.mem_of_mem_take hr)
 rfl
theorem rows_eu (C:List Nat):Bq 1 (.imm (eu C)) = .ok (eu C):=by cases C<;>rfl
theorem AlH {N:Nat} {d:Option Nat} {args:List Ag} {g:Option (Nat × Bool)} {un:List Nat} {l:List Ae} {m:FM} {S:Ab} {K:FM→Ab→Prop} {E C:List Nat} {n a lo hi:Nat}
 (hE:E.length<4294967296) (hC:C.length≤E.length+1)
 (hd:(d.all fun d=>d<N)=true) (hg:gd m g=some true) (ha:los m args=some [gv E C n a lo hi])
 (h:TL APg N l (putM m d (.view (S.length+1) 0 (E.length+1) true)) (S++[some ⟨6,[gc E C n a lo hi]⟩]++[some ⟨1,eu (fillC E C)⟩]) K) :
 TL APg N (⟨d,.call (.c (.fn (.func AaE) [] [])) args,g,un⟩::l) m S K:=by
 refine tl_share (af:=Abf) hd hg ha rfl rfl rfl rfl rfl rfl rfl rfl ?_
 have hle:(en E).length=E.length:=List.length_map _
 refine tS (tO ?_);refine AH (o_box rfl rfl rfl rfl) rfl rfl rfl rfl ?_;refine tR 1 rfl (tN (tS ?_))
 refine tO (tR 1 rfl ?_);refine tP (BK rfl (Ax AW) rfl (Nat.le_of_ble_eq_true rfl) rfl) rfl rfl rfl rfl ?_
 refine tR 1 rfl ?_;refine tP (oA (b:=1) rfl rfl (by omega)) rfl rfl rfl rfl ?_
 refine AH (Azf rfl rfl (by omega) (by omega)) rfl rfl rfl rfl ?_;refine tR 1 rfl (tN (tS (tO ?_)))
 refine tR 2 rfl ?_
 rw [BN,BN]
 have h1:(S++[some ⟨6,[gc E C n a lo hi]⟩]++[some ⟨1,List.replicate ((en E).length+1) [u6 0]⟩])[S.length]?=some (some ⟨6,[gc E C n a lo hi]⟩):=AU AW
 refine tP (BK (v := .imm (eu C)) rfl h1 rfl (Nat.le_of_ble_eq_true rfl) rfl) rfl rfl rfl rfl ?_
 refine tP (Awh (rows:=List.replicate ((en E).length+1) [u6 0]) (ys:=eu C) (n:=C.length) rfl rfl (rows_eu C) AW (by simp;omega) (by simp) (AwJ C)) rfl rfl rfl rfl ?_
 rw [BN]
 have e:(List.replicate ((en E).length+1) [u6 0]).take 0++(eu C).take C.length++(List.replicate ((en E).length+1) [u6 0]).drop (0+C.length)=eu (fillC E C):=by
  simp [fillC,eu,List.take_of_length_le]
 rw [e]
 refine tN (tS (tO (tR 2 rfl (tN ?_))))
 refine tT ⟨.inr rfl,_,rfl,?_⟩
 have e2:(S++[some (⟨6,[Bn (gv E C n a lo hi)]⟩:ABlock)]).length=S.length+1:=List.length_append
 rw [e2,hle]
 exact h
theorem counts_ok (E C:List Nat) (n a lo hi:Nat) (hE:E.length<4294967296) (hC:C.length≤E.length+1):Ak APg AcO [gv E C n a lo hi] (.imm (eu (fillC E C))):=by
 have hl:(fillC E C).length=E.length+1:=by simp [fillC];omega
 refine Al (af:=Abg) rfl rfl ?_
 refine tS (tO (tR 2 rfl (tN (tS (tO (tR 1 rfl ?_))))))
 refine AlH hE hC rfl rfl rfl ?_
 refine tR 1 rfl (tN ?_)
 exact tT (AsA rfl AW (by simp [hl]) (by rw [List.drop_zero];exact List.take_of_length_le (by simp [hl])) (AmM _))
end Go.Eng.Ga
namespace Go.Eng.Ga
open Go Go.Eng
variable [Inhabited GlobT]
attribute [local irreducible] OpR TL TD TC TS Ak
def bump (C:List Nat) (i:Nat):List Nat:=C.set i (C.getD i 0+1)
structure OkG (E C:List Nat) (n a lo hi:Nat):Prop where
 oe:OkE E
 el:E.length<4294967296
 oc:C=[]∨C.length=E.length+1
 on:n<4294967296
 oa:a<4294967296
 ca:∀ x∈C,x≤a
 ol:W64 lo
 oh:W64 hi
theorem addN_ok (E C:List Nat) (n a lo hi:Nat) (h:OkG E C n a lo hi) (x:Nat) (hx:W64 x) (hn:fN x=true):Ak APg Abd [gv E C n a lo hi,fl x] (gv E C (n+1) a lo hi):=by
 have h1:=Aix x hx
 rw [hn] at h1
 have h2:=Apz n 1 (by have:=h.on;omega)
 refine Al (af:=Aaj) rfl rfl ?_
 refine tS (tO (tR 2 rfl (tN (tS (tS (tO ?_))))))
 refine tR 1 rfl ?_;refine tC rfl rfl (h1) rfl rfl rfl rfl rfl rfl ?_;refine tN ?_
 refine AI (t:=true) rfl (fun _=>?_) (fun h=>nomatch h);refine tS (tO (tR 2 rfl ?_))
 refine tC rfl rfl (h2) rfl rfl rfl rfl rfl rfl ?_;refine tR 2 rfl (tN (tS (tO ?_)))
 refine tR 2 rfl (tN ?_);exact tT (AS rfl ⟨_,fzO (by simp [one,Bn,Zv.closed,Aj,cLm,cLLm])⟩)
theorem AtD {S:Ab} {E C:List Nat} {n a lo hi b len:Nat} {full:Bool} (h1:S[b]?=some (some ⟨1,eu C⟩)) (hl:len=C.length) :
 (frz (5+1) (.agg [.imm (en E),.view b 0 len full,u6 n,u6 a,fl lo,fl hi])).run S=some (gv E C n a lo hi,[b]):=by
 have hc:Aj [.imm (en E),.view b 0 len full,u6 n,u6 a,fl lo,fl hi]=false:=by simp [Aj,Zv.closed]
 refine Azz (i:=[b]) hc (Adh (i:=[]) (j:=[b]) (fzO (AmQ E)) ?_)
 exact Adh (i:=[b]) (j:=[]) (Aiz (blk:=⟨1,eu C⟩) h1 (by simpa using hl) (AmM C)) (Adi rfl)
theorem AvE (E C:List Nat) (n a lo hi:Nat) (h:OkG E C n a lo hi) (x:Nat) (hx:W64 x) :
 TC APg (max Aaj.nargs Aaj.N) Adm [(1,fl x),(2,.ptr 0 0 0),(4,.ptr 1 0 0)] [some ⟨6,[gc E C n a lo hi]⟩,some ⟨6,[[.nils,.nils,.int .u64 0,.int .u64 0,.flt .f64 0,.flt .f64 0]]⟩]
  fun ex m S=>(ex = .normal∨ex = .ret)∧∃ vs ids,Abx m S Aaj.res=some vs∧(frz Az (one vs)).run S=some (gv E (bump (fillC E C) (stepN E x)) n (a+1) (minF lo x) (maxF hi x),ids):=by
 have h2:=Apz a 1 (by have:=h.oa;omega)
 have h3:=least_ok lo x h.ol hx
 have h4:=most_ok hi x h.oh hx
 have hC:C.length≤E.length+1:=by rcases h.oc with c | c<;>simp [c]
 refine tS ?_;refine tD0 rfl ?_;refine dR 3 rfl ?_;refine dP rfl rfl (AZ rfl rfl rfl) ?_
 refine ApI rfl rfl h3 rfl rfl rfl rfl rfl ?_
 refine dR 3 rfl ?_;refine dP rfl rfl (AZ rfl rfl rfl) ?_
 refine ApI rfl rfl h4 rfl rfl rfl rfl rfl ?_
 refine dR 4 rfl (dN ?_);refine⟨rfl,?_⟩;refine tS (tO (tR 2 rfl ?_))
 refine tC rfl rfl (h2) rfl rfl rfl rfl rfl rfl ?_;refine tR 2 rfl (tN (tS (tO ?_)))
 refine tR 1 rfl ?_
 refine AlH (E:=E) (C:=C) (n:=n) (a:=a+1) (lo:=minF lo x) (hi:=maxF hi x) h.el hC rfl rfl rfl ?_
 refine tR 2 rfl (tN (tS ?_));refine tD0 rfl ?_;refine dR 4 rfl ?_
 have hst:=AvI E (fillC E C) n (a+1) (minF lo x) (maxF hi x) h.oe h.el x hx
 have hfl:(fillC E C).length=E.length+1:=by simp [fillC];omega
 have hzz:∀ S:Ab,S[3]?=some (some ⟨1,eu (fillC E C)⟩)→(RM.mapL (frz Az) [.agg [.imm (en E),.view 3 0 (E.length+1) true,u6 n,u6 (a+1),fl (minF lo x),fl (maxF hi x)],fl x]).run S=some ([gv E (fillC E C) n (a+1) (minF lo x) (maxF hi x),fl x],[3]):=fun S hS =>
  Adh (i:=[3]) (j:=[]) (AtD hS (by rw [hfl])) (Adi rfl)
 refine ApI rfl (hzz _ rfl) hst (Bool.or_true _) rfl rfl rfl rfl ?_
 have hsl:stepN E x<(fillC E C).length:=by have:=ApL E x;omega
 refine dP rfl rfl (AE rfl rfl (by omega) rfl rfl) ?_
 refine dP rfl rfl (AbO 0 rfl rfl hsl rfl) ?_
 have hcb:(fillC E C).getD (stepN E x) 0<4294967296:=by
  unfold fillC
  rcases Nat.lt_or_ge (stepN E x) C.length with g | g
  ·rw [Atg g,List.getD_eq_getElem?_getD,List.getElem?_eq_getElem g]
   have:=h.ca _ (List.getElem_mem g)
   have:=h.oa
   simp only [Option.getD_some];omega
  ·rw [List.getD_eq_getElem?_getD,List.getElem?_append_right g,List.getElem?_replicate]
   split<;>simp
 refine dP rfl rfl (Ait (b:=1) rfl rfl (AaA (by omega))) ?_;refine dP rfl rfl (AE rfl rfl (by omega) rfl rfl) ?_
 refine dP rfl rfl (Agg 0 rfl rfl rfl (by omega) ⟨_,rfl⟩ rfl rfl) ?_;refine dN ?_;refine⟨rfl,?_⟩;refine tS (tO ?_)
 refine tR 2 rfl (tN ?_)
 refine tT (AS (vs:=[_]) rfl ⟨_,AtD (C:=bump (fillC E C) (stepN E x)) rfl ?_⟩)
 rw [bump,List.length_set,hfl]
theorem addX_ok (E C:List Nat) (n a lo hi:Nat) (h:OkG E C n a lo hi) (x:Nat) (hx:W64 x) (hn:fN x=false) :
 Ak APg Abd [gv E C n a lo hi,fl x] (gv E (bump (fillC E C) (stepN E x)) n (a+1) (minF (if a=0 then x else lo) x) (maxF (if a=0 then x else hi) x)):=by
 have h1:=Aix x hx
 rw [hn] at h1
 refine Al (af:=Aaj) rfl rfl ?_
 refine tS (tO (tR 2 rfl (tN (tS (tS (tO ?_))))))
 refine tR 1 rfl ?_;refine tC rfl rfl (h1) rfl rfl rfl rfl rfl rfl ?_;refine tN ?_
 refine AI (t:=false) rfl (fun h=>nomatch h) (fun _=>?_);refine tK (tS (tS (tO ?_)))
 refine tR 3 rfl (tN ?_)
 refine tQ rfl beq_iff_eq (fun g=>?_) (fun g=>tK ?_)
 ·have g:a=0:=by omega
  rw [if_pos g,if_pos g]
  refine tO (tR 6 rfl (tN ?_))
  refine TC.weaken ?_ (AvE E C n a x x ⟨h.oe,h.el,h.oc,h.on,h.oa,h.ca,hx,hx⟩ x hx)
  (repeat' (first | exact wN | refine wC rfl ?_))
 ·have g:¬ a=0:=by omega
  rw [if_neg g,if_neg g]
  refine TC.weaken ?_ (AvE E C n a lo hi h x hx)
  (repeat' (first | exact wN | refine wC rfl ?_))
end Go.Eng.Ga
namespace Go.Eng.Ga
open Go Go.Eng
variable [Inhabited GlobT]
attribute [local irreducible] OpR TL TD TC TS Ak
def bad1 (E:List Nat) (i:Nat):Bool:=fN (E.getD i 0) || (decide (0<i) && decide (fT (E.getD i 0)≤fT (E.getD (i - 1) 0)))
def badE (E:List Nat):Bool:=(List.range E.length).any (bad1 E)
def errN (E:List Nat):Nat:=if 32<E.length then 6 else if badE E then 21 else 0
theorem Aks {E:List Nat} {i:Nat} (hi:i<E.length) (h:bad1 E i=true):badE E=true:=List.any_eq_true.2 ⟨i,List.mem_range.2 hi,h⟩
theorem badE_no {E:List Nat} (h:∀ i,i<E.length→bad1 E i=false):badE E=false:=by
 unfold badE
 rw [List.any_eq_false]
 intro i hi
 rw [h i (List.mem_range.1 hi)];simp
theorem cmp_ge {a b:Nat}:decide (cmpF a b≥0)=decide (fT b≤fT a):=by
 unfold cmpF cmpI
 refine decide_eq_decide.2 ?_
 split
 ·simp;omega
 ·split<;>simp<;>omega
theorem errN_ok {E:List Nat} (hw:∀ x∈E,W64 x) (h:errN E=0):OkE E∧E.length≤32:=by
 unfold errN at h
 split at h
 ·cases h
 ·split at h
  ·cases h
  ·rename_i h1 h2
   have hb:∀ i,i<E.length→bad1 E i=false:=fun i hi=>by
    cases hc:bad1 E i
    ·rfl
    ·exact absurd (Aks hi hc) h2
   refine⟨⟨hw,fun x hx=>?_,?_⟩,by omega⟩
   ·obtain⟨i,hi,rfl⟩:=List.getElem_of_mem hx
    have:=hb i hi
    unfold bad1 at this
    rw [Bool.or_eq_false_iff] at this
    rw [←this.1,List.getD_eq_getElem?_getD,List.getElem?_eq_getElem hi];rfl
   ·have step:∀ j,j+1<E.length→fT (E.getD j 0)<fT (E.getD (j+1) 0):=fun j hj=>by
     have:=hb (j+1) hj
     unfold bad1 at this
     rw [Bool.or_eq_false_iff] at this
     have:=this.2
     simp at this
     simpa using this
    intro i j hij
    induction j with
    | zero=>omega
    | succ j ih =>
      intro hj
      rcases Nat.lt_or_ge i j with g | g
      ·exact Int.lt_trans (ih g (by omega)) (step j hj)
      ·have:i=j:=by omega
       subst this
       exact step i hj
theorem AdR {E:List Nat} (hw:∀ x∈E,W64 x) (i:Nat):W64 (E.getD i 0):=by
 rw [List.getD_eq_getElem?_getD]
 cases hi:E[i]? with
 | none=>simp
 | some x=>exact hw x (List.mem_of_getElem? hi)
theorem rNew_ok (E:List Nat) (hw:∀ x∈E,W64 x) (hl:E.length<4294967296):Ak APg AtL [.imm (en E)] (.int .i64 (errN E:Int)):=by
 have hle:(en E).length=E.length:=List.length_map _
 unfold errN
 refine Al (af:=Ank) rfl rfl ?_
 refine tS (tO (tR 1 rfl (tN (tS (tS (tO ?_))))))
 refine tR 3 rfl (tN ?_)
 refine tQ rfl decide_eq_true_iff (fun c=>?_) (fun c=>tK ?_)
 ·rw [if_pos (by omega)]
  refine tS (tO (tR 1 rfl (tN ?_)));exact tT (AS rfl ⟨_,fzO rfl⟩)
 rw [if_neg (by omega)]
 refine tS (tS (tO (tR 3 rfl (tN ?_))))
 refine tB (lST (σ:=Nat) (fun i=>E.length - i) (fun i=>[(0,.imm (en E)),(8,.imm (en E)),(9,.int .i64 ((en E).length:Int)),(10,.int .i64 (i:Int))])
  (fun i S=>i≤E.length∧S=[]∧∀ j,j<i→bad1 E j=false) 0 (by (repeat' (first | exact wN | refine wC rfl ?_))) ⟨by omega,rfl,fun j hj=>absurd hj (by omega)⟩ ?_)
 rintro i S ⟨hi,rfl,hb⟩
 refine tS (tO (tR 1 rfl (tN (tS ?_))))
 refine tQ rfl decide_eq_true_iff (fun c=>tK ?_) (fun c=>tX ?_)
 ·have hi':i<E.length:=by omega
  have hne:=Apl (AdR hw i)
  refine tS ?_;refine tB ?_;refine tS (tO (tR 1 rfl ?_))
  refine tP (Bl rfl rfl (AQ (d:=0) (by omega)) rfl) rfl rfl rfl rfl ?_;refine tR 3 rfl (tN (tS ?_))
  refine tO (tR 4 rfl ?_)
  rw [hne]
  cases hn:fN (E.getD i 0)
  ·by_cases h0:i=0
   ·subst h0
    have hz:bad1 E 0=false:=by unfold bad1;rw [hn];rfl
    refine tR 5 rfl ?_
    refine AlG rfl rfl ?_
    refine tR 7 rfl (tN ?_);refine AI (t:=false) rfl (fun h=>nomatch h) (fun _=>?_);refine tK (tO ?_)
    refine tP (oB (v := .int .i64 1) rfl rfl rfl) rfl rfl rfl rfl ?_;refine tR 1 rfl (tN ?_)
    refine⟨1,by omega,by (repeat' (first | exact wN | refine wC rfl ?_)),by omega,rfl,fun j hj=>?_⟩
    have:j=0:=by omega
    subst this;exact hz
   ·have hc:=rcmp_ok (E.getD (i - 1) 0) (E.getD i 0) (AdR hw _) (AdR hw _)
    have him:i - 1<E.length:=by omega
    refine tR 3 rfl ?_
    rw [show decide ((i:Int)>0)=true from decide_eq_true (by omega)]
    refine tR 2 rfl ?_;refine tP (AaH (b:=1) rfl rfl (by omega) (by omega)) rfl rfl rfl rfl ?_
    refine tP (Bl rfl rfl (AQ (d:=0) (by omega)) rfl) rfl rfl rfl rfl ?_;refine tR 2 rfl ?_
    refine tC rfl rfl (hc) rfl rfl rfl rfl rfl rfl ?_;refine tR 3 rfl (tN ?_)
    rw [cmp_ge]
    refine tQ rfl decide_eq_true_iff (fun g=>?_) (fun g=>tK ?_)
    ·have hbd:badE E=true:=Aks hi' (by unfold bad1;rw [hn,decide_eq_true (by omega),decide_eq_true g];rfl)
     rw [hbd]
     refine tS (tO (tR 1 rfl (tN ?_)));exact tT (AS rfl ⟨_,fzO rfl⟩)
    ·refine tO ?_;refine tP (oA (b:=1) rfl rfl (by omega)) rfl rfl rfl rfl ?_;refine tR 1 rfl (tN ?_)
     refine⟨i+1,by omega,by (repeat' (first | exact wN | refine wC rfl ?_)),by omega,rfl,fun j hj=>?_⟩
     rcases Nat.lt_or_ge j i with k | k
     ·exact hb j k
     ·have:j=i:=by omega
      subst this
      unfold bad1
      rw [hn,decide_eq_false g];simp
  ·have hbd:badE E=true:=Aks hi' (by unfold bad1;rw [hn];rfl)
   rw [hbd]
   refine tR 5 rfl ?_
   refine AlG rfl rfl ?_
   refine tR 7 rfl (tN ?_);refine AI (t:=true) rfl (fun _=>?_) (fun h=>nomatch h);refine tS (tO ?_)
   refine tR 1 rfl (tN ?_);exact tT (AS rfl ⟨_,fzO rfl⟩)
 ·have hbd:badE E=false:=badE_no fun j hj=>hb j (by omega)
  rw [hbd]
  refine tS (tO (tR 1 rfl (tN ?_)));exact tT (AS rfl ⟨_,fzO rfl⟩)
end Go.Eng.Ga
namespace Go.Eng.Ga
open Go Go.Eng
variable [Inhabited GlobT]
attribute [local irreducible] OpR TL TD TC TS Ak
theorem Apv:AaV APg (AJ APg 20) Aae .nils=true:=by kernel_rfl
theorem Ang:AaV APg (AJ APg 20) Aae .enil=true:=by kernel_rfl
theorem Apu (x:Nat) (l:List Nat) (hl:l.length≤1000000):∃ v S1,CallSR APg Aae [.imm (en (x::l))] [] v S1∧∃ j,v = .view j 0 (en (x::l)).length false∧S1[j]?=some (some ⟨1,en (x::l)⟩):=by
 refine callSR_of (af:=Aak) rfl rfl ?_
 refine tS (tO (tR 1 rfl (tN (tS (tS (tO ?_))))))
 refine tR 2 rfl (tN ?_);refine AI (t:=false) rfl (fun h=>nomatch h) (fun _=>?_);refine tK (tS ?_)
 refine tO ?_;refine tP (AZ rfl rfl rfl) rfl rfl rfl rfl ?_;refine tR 1 rfl ?_
 refine AH (AsQ rfl rfl (rows:=en (x::l)) rfl (by simp) (by simp;omega) rfl) rfl rfl rfl rfl ?_
 refine tR 1 rfl (tN ?_)
 refine tT ⟨.inr rfl,_,rfl,0,?_,?_⟩
 ·simp [one]
 ·simp
theorem nNew_bad (E:List Nat) (hw:∀ x∈E,W64 x) (hl:E.length<4294967296) (he:errN E≠0):Ak APg Adj [.imm (en E)] (.tuple [gv [] [] 0 0 0 0,.int .i64 (errN E:Int)]):=by
 have hle:(en E).length=E.length:=List.length_map _
 unfold errN at he ⊢
 refine Al (af:=AeQ) rfl rfl ?_
 refine tS (tO (tR 2 rfl (tN (tS (tS (tO ?_))))))
 refine tR 3 rfl (tN ?_)
 refine tQ rfl decide_eq_true_iff (fun c=>?_) (fun c=>tK ?_)
 ·rw [if_pos (by omega)]
  refine tS (tO ?_);refine tP (Aba rfl rfl) rfl rfl rfl rfl ?_;refine tR 2 rfl (tN ?_)
  exact tT (AS (vs:=[_,_]) rfl ⟨[],rfl⟩)
 rw [if_neg (by omega)] at he ⊢
 refine tS (tS (tO (tR 3 rfl (tN ?_))))
 refine tB (lST (σ:=Nat) (fun i=>E.length - i) (fun i=>[(0,.imm (en E)),(2,.ptr 0 0 0),(10,.imm (en E)),(11,.int .i64 ((en E).length:Int)),(12,.int .i64 (i:Int))])
  (fun i S=>i≤E.length∧S=[some ⟨6,[[.nils,.nils,.int .u64 0,.int .u64 0,.flt .f64 0,.flt .f64 0]]⟩]∧∀ j,j<i→bad1 E j=false) 0 (by (repeat' (first | exact wN | refine wC rfl ?_))) ⟨by omega,rfl,fun j hj=>absurd hj (by omega)⟩ ?_)
 rintro i S ⟨hi,rfl,hb⟩
 refine tS (tO (tR 1 rfl (tN (tS ?_))))
 refine tQ rfl decide_eq_true_iff (fun c=>tK ?_) (fun c=>tX ?_)
 ·have hi':i<E.length:=by omega
  have hne:=Aix _ (AdR hw i)
  cases hn:fN (E.getD i 0)
  ·rw [hn] at hne
   by_cases h0:i=0
   ·subst h0
    have hz:bad1 E 0=false:=by unfold bad1;rw [hn];rfl
    refine tS ?_;refine tB ?_;refine tS (tO (tR 1 rfl ?_))
    refine tP (Bl rfl rfl (AQ (d:=0) (by omega)) rfl) rfl rfl rfl rfl ?_;refine tR 3 rfl (tN (tS ?_))
    refine tO (tR 1 rfl ?_);refine tC rfl rfl (hne) rfl rfl rfl rfl rfl rfl ?_;refine tR 6 rfl ?_
    refine AlG rfl rfl ?_
    refine tR 7 rfl (tN ?_);refine AI (t:=false) rfl (fun h=>nomatch h) (fun _=>?_);refine tK (tO ?_)
    refine tP (oB (v := .int .i64 1) rfl rfl rfl) rfl rfl rfl rfl ?_;refine tR 1 rfl (tN ?_)
    refine⟨1,by omega,by (repeat' (first | exact wN | refine wC rfl ?_)),by omega,rfl,fun j hj=>?_⟩
    have:j=0:=by omega
    subst this;exact hz
   ·have hc:=AkR (E.getD (i - 1) 0) (E.getD i 0) (AdR hw _) (AdR hw _)
    have him:i - 1<E.length:=by omega
    refine tS ?_;refine tB ?_;refine tS (tO (tR 1 rfl ?_))
    refine tP (Bl rfl rfl (AQ (d:=0) (by omega)) rfl) rfl rfl rfl rfl ?_;refine tR 3 rfl (tN (tS ?_))
    refine tO (tR 1 rfl ?_);refine tC rfl rfl (hne) rfl rfl rfl rfl rfl rfl ?_;refine tR 4 rfl ?_
    rw [show decide ((i:Int)>0)=true from decide_eq_true (by omega)]
    refine tR 2 rfl ?_;refine tP (AaH (b:=1) rfl rfl (by omega) (by omega)) rfl rfl rfl rfl ?_
    refine tP (Bl rfl rfl (AQ (d:=0) (by omega)) rfl) rfl rfl rfl rfl ?_;refine tR 2 rfl ?_
    refine tC rfl rfl (hc) rfl rfl rfl rfl rfl rfl ?_;refine tR 3 rfl (tN ?_)
    rw [cmp_ge]
    refine tQ rfl decide_eq_true_iff (fun g=>?_) (fun g=>tK ?_)
    ·have hbd:badE E=true:=Aks hi' (by unfold bad1;rw [hn,decide_eq_true (by omega),decide_eq_true g];rfl)
     rw [hbd]
     refine tS (tO ?_);refine tP (Aba rfl rfl) rfl rfl rfl rfl ?_;refine tR 2 rfl (tN ?_)
     exact tT (AS (vs:=[_,_]) rfl ⟨[],rfl⟩)
    ·refine tO ?_;refine tP (oA (b:=1) rfl rfl (by omega)) rfl rfl rfl rfl ?_;refine tR 1 rfl (tN ?_)
     refine⟨i+1,by omega,by (repeat' (first | exact wN | refine wC rfl ?_)),by omega,rfl,fun j hj=>?_⟩
     rcases Nat.lt_or_ge j i with k | k
     ·exact hb j k
     ·have:j=i:=by omega
      subst this
      unfold bad1
      rw [hn,decide_eq_false g];simp
  ·have hbd:badE E=true:=Aks hi' (by unfold bad1;rw [hn];rfl)
   rw [hbd]
   rw [hn] at hne
   refine tS ?_;refine tB ?_;refine tS (tO (tR 1 rfl ?_))
   refine tP (Bl rfl rfl (AQ (d:=0) (by omega)) rfl) rfl rfl rfl rfl ?_;refine tR 3 rfl (tN (tS ?_))
   refine tO (tR 1 rfl ?_);refine tC rfl rfl (hne) rfl rfl rfl rfl rfl rfl ?_;refine tR 6 rfl ?_
   refine AlG rfl rfl ?_
   refine tR 7 rfl (tN ?_);refine AI (t:=true) rfl (fun _=>?_) (fun h=>nomatch h);refine tS (tO ?_)
   refine tP (Aba rfl rfl) rfl rfl rfl rfl ?_;refine tR 2 rfl (tN ?_)
   exact tT (AS (vs:=[_,_]) rfl ⟨[],rfl⟩)
 ·have hbd:badE E=false:=badE_no fun j hj=>hb j (by omega)
  rw [hbd] at he
  exact absurd rfl he
theorem nNew_ok (E:List Nat) (hw:∀ x∈E,W64 x) (hl:E.length<4294967296) (he:errN E=0):Ak APg Adj [.imm (en E)] (.tuple [gv E [] 0 0 0 0,.int .i64 0]):=by
 have hle:(en E).length=E.length:=List.length_map _
 have hok:=errN_ok hw he
 have hbe:∀ i,i<E.length→bad1 E i=false:=fun i hi=>by
  cases hc:bad1 E i
  ·rfl
  ·have:=Aks hi hc
   unfold errN at he
   rw [if_neg (by omega),if_pos this] at he
   cases he
 refine Al (af:=AeQ) rfl rfl ?_
 refine tS (tO (tR 2 rfl (tN (tS (tS (tO ?_))))))
 refine tR 3 rfl (tN ?_)
 refine tQ rfl decide_eq_true_iff (fun c=>?_) (fun c=>tK ?_)
 ·exfalso;omega
 refine tS (tS (tO (tR 3 rfl (tN ?_))))
 refine tB (lST (σ:=Nat) (fun i=>E.length - i) (fun i=>[(0,.imm (en E)),(2,.ptr 0 0 0),(10,.imm (en E)),(11,.int .i64 ((en E).length:Int)),(12,.int .i64 (i:Int))])
  (fun i S=>i≤E.length∧S=[some ⟨6,[[.nils,.nils,.int .u64 0,.int .u64 0,.flt .f64 0,.flt .f64 0]]⟩]) 0 (by (repeat' (first | exact wN | refine wC rfl ?_))) ⟨by omega,rfl⟩ ?_)
 rintro i S ⟨hi,rfl⟩
 refine tS (tO (tR 1 rfl (tN (tS ?_))))
 refine tQ rfl decide_eq_true_iff (fun c=>tK ?_) (fun c=>tX ?_)
 ·have hi':i<E.length:=by omega
  have hne:=Aix _ (AdR hw i)
  cases hn:fN (E.getD i 0)
  ·rw [hn] at hne
   by_cases h0:i=0
   ·subst h0
    refine tS ?_;refine tB ?_;refine tS (tO (tR 1 rfl ?_))
    refine tP (Bl rfl rfl (AQ (d:=0) (by omega)) rfl) rfl rfl rfl rfl ?_;refine tR 3 rfl (tN (tS ?_))
    refine tO (tR 1 rfl ?_);refine tC rfl rfl (hne) rfl rfl rfl rfl rfl rfl ?_;refine tR 6 rfl ?_
    refine AlG rfl rfl ?_
    refine tR 7 rfl (tN ?_);refine AI (t:=false) rfl (fun h=>nomatch h) (fun _=>?_);refine tK (tO ?_)
    refine tP (oB (v := .int .i64 1) rfl rfl rfl) rfl rfl rfl rfl ?_;refine tR 1 rfl (tN ?_)
    exact⟨1,by omega,by (repeat' (first | exact wN | refine wC rfl ?_)),by omega,rfl⟩
   ·have hc:=AkR (E.getD (i - 1) 0) (E.getD i 0) (AdR hw _) (AdR hw _)
    have him:i - 1<E.length:=by omega
    refine tS ?_;refine tB ?_;refine tS (tO (tR 1 rfl ?_))
    refine tP (Bl rfl rfl (AQ (d:=0) (by omega)) rfl) rfl rfl rfl rfl ?_;refine tR 3 rfl (tN (tS ?_))
    refine tO (tR 1 rfl ?_);refine tC rfl rfl (hne) rfl rfl rfl rfl rfl rfl ?_;refine tR 4 rfl ?_
    rw [show decide ((i:Int)>0)=true from decide_eq_true (by omega)]
    refine tR 2 rfl ?_;refine tP (AaH (b:=1) rfl rfl (by omega) (by omega)) rfl rfl rfl rfl ?_
    refine tP (Bl rfl rfl (AQ (d:=0) (by omega)) rfl) rfl rfl rfl rfl ?_;refine tR 2 rfl ?_
    refine tC rfl rfl (hc) rfl rfl rfl rfl rfl rfl ?_;refine tR 3 rfl (tN ?_)
    rw [cmp_ge]
    refine tQ rfl decide_eq_true_iff (fun g=>?_) (fun g=>tK ?_)
    ·have hbd:=hbe i hi'
     unfold bad1 at hbd
     rw [hn,decide_eq_true (by omega),decide_eq_true g] at hbd
     cases hbd
    ·refine tO ?_;refine tP (oA (b:=1) rfl rfl (by omega)) rfl rfl rfl rfl ?_;refine tR 1 rfl (tN ?_)
     exact⟨i+1,by omega,by (repeat' (first | exact wN | refine wC rfl ?_)),by omega,rfl⟩
  ·have hbd:=hbe i hi'
   unfold bad1 at hbd
   rw [hn] at hbd
   cases hbd
 ·refine tS (tO (tR 1 rfl ?_))
  cases E with
  | nil =>
    refine AyB (o_keep0 rfl rfl rfl rfl Apv Ang) rfl rfl rfl rfl ?_
    refine tP (Aba rfl rfl) rfl rfl rfl rfl ?_;refine tR 2 rfl (tN ?_)
    exact tT (AS (vs:=[_,_]) rfl ⟨[],rfl⟩)
  | cons x l =>
    obtain⟨v,S1,h1,j,rfl,h2⟩:=Apu x l (by have:=hok.2;simp at this;omega)
    refine AyB (o_keepv rfl rfl rfl (by simp only [norefL,Zv.noref,Alt,Bool.and_self]) rfl h1 h2 (Alt _)) rfl rfl rfl rfl ?_
    refine tP (Aba rfl rfl) rfl rfl rfl rfl ?_;refine tR 2 rfl (tN ?_)
    refine tT (AS (vs:=[_,_]) rfl ⟨_,AoX (n:=5) (by simp [Aj,Zv.closed]) (Adh (Azz (n:=4) (by simp [Aj,Zv.closed]) (Adh (Aiz (n:=3) (blk:=⟨1,en (x::l)⟩) rfl rfl (AmQ _)) (Adh Azx (Adi rfl)))) (Adi rfl))⟩)
end Go.Eng.Ga
namespace Go.Eng.Ga
open Go Go.Eng
variable [Inhabited GlobT]
attribute [local irreducible] OpR TL TD TC TS Ak
theorem equalU_ok (L:List Nat) (hl:L.length<4294967296):Ak APg AaP [.imm (eu L),.imm (eu L)] (.bool true):=by
 have hle:(eu L).length=L.length:=List.length_map _
 refine Al (af:=Aam) rfl rfl ?_
 refine tS (tO (tR 1 rfl (tN (tS (tS (tO ?_))))))
 refine tR 5 rfl (tN ?_)
 refine tQ rfl bne_iff_ne (fun c=>absurd rfl c) (fun c=>tK ?_)
 refine tS (tS (tO (tR 3 rfl (tN ?_))))
 refine tB (lST (σ:=Nat) (fun i=>L.length - i) (fun i=>[(0,.imm (eu L)),(1,.imm (eu L)),(11,.imm (eu L)),(12,.int .i64 ((eu L).length:Int)),(13,.int .i64 (i:Int))])
  (fun i S=>i≤L.length) 0 (by (repeat' (first | exact wN | refine wC rfl ?_))) (by omega) ?_)
 intro i S hi
 refine tS (tO (tR 1 rfl (tN (tS ?_))))
 refine tQ rfl decide_eq_true_iff (fun c=>tK ?_) (fun c=>tX ?_)
 ·have hi':i<L.length:=by omega
  refine tS ?_;refine tB ?_;refine tS (tO (tR 2 rfl (tN (tS ?_))))
  refine tD0 rfl ?_;refine dR 2 rfl ?_;refine dP rfl rfl (Bl rfl rfl (AQ (d:=0) (by omega)) rfl) ?_;refine dR 3 rfl ?_
  refine dP rfl rfl (Bl rfl rfl (AQ (d:=0) (by omega)) rfl) ?_;refine dR 2 rfl (dN ?_);refine⟨rfl,?_⟩
  refine tQ rfl bne_iff_ne (fun c=>absurd rfl c) (fun c=>tK ?_)
  refine tO ?_;refine tP (oA (b:=1) rfl rfl (by omega)) rfl rfl rfl rfl ?_;refine tR 1 rfl (tN ?_)
  exact⟨i+1,by omega,by (repeat' (first | exact wN | refine wC rfl ?_)),by omega⟩
 ·refine tS (tO (tR 1 rfl (tN ?_)));exact tT (AS rfl ⟨_,fzO rfl⟩)
theorem cmp_le {a b:Nat}:decide (cmpF a b≤0)=decide (fT a≤fT b):=by
 unfold cmpF cmpI
 refine decide_eq_decide.2 ?_
 split
 ·simp;omega
 ·split<;>simp<;>omega
end Go.Eng.Ga
namespace Go.Eng.Ga
open Go Go.Eng
variable [Inhabited GlobT]
attribute [local irreducible] OpR TL TD TC TS Ak
def stp (E:List Nat) (s:List Nat × Nat × Nat) (x:Nat):List Nat × Nat × Nat:=if fN x then (s.1,s.2.1+1,s.2.2) else (bump s.1 (stepN E x),s.2.1,s.2.2+1)
def cnt (E l:List Nat):List Nat × Nat × Nat:=l.foldl (stp E) (List.replicate (E.length+1) 0,0,0)
theorem Alf {l:List Nat} {i:Nat} (h:i<l.length):l.take (i+1)=l.take i++[l.getD i 0]:=by
 rw [List.take_add_one,List.getElem?_eq_getElem h,List.getD_eq_getElem?_getD,List.getElem?_eq_getElem h];rfl
theorem cnt_snoc (E l:List Nat) (x:Nat):cnt E (l++[x])=stp E (cnt E l) x:=by unfold cnt;rw [List.foldl_append];rfl
theorem ArM (E:List Nat) {l:List Nat} {i:Nat} (h:i<l.length):cnt E (l.take (i+1))=stp E (cnt E (l.take i)) (l.getD i 0):=by rw [Alf h,cnt_snoc]
structure Ayv (E:List Nat) (m:Nat) (s:List Nat × Nat × Nat):Prop where
 len:s.1.length=E.length+1
 le:∀ x∈s.1,x≤s.2.2
 sum:s.2.1+s.2.2=m
theorem AzY (C:List Nat) (i:Nat):(bump C i).length=C.length:=by unfold bump;simp
theorem bump_le {C:List Nat} {a i:Nat} (h:∀ x∈C,x≤a):∀ x∈bump C i,x≤a+1:=by
 intro x hx
 unfold bump at hx
 rcases List.mem_or_eq_of_mem_set hx with g | g
 ·have:=h x g;omega
 ·subst g
  rw [List.getD_eq_getElem?_getD]
  cases hi:C[i]? with
  | none=>simp
  | some y=>have:=h y (List.mem_of_getElem? hi);simp;omega
theorem stp_ok {E:List Nat} {m:Nat} {s:List Nat × Nat × Nat} (h:Ayv E m s) (x:Nat):Ayv E (m+1) (stp E s x):=by
 unfold stp
 have:=h.sum
 split
 ·exact⟨h.len,h.le,by simp only;omega⟩
 ·exact⟨by simp only [AzY];exact h.len,bump_le h.le,by simp only;omega⟩
theorem cnt_zero (E:List Nat):Ayv E 0 (cnt E []):=⟨List.length_replicate,fun x hx=>by rw [List.eq_of_mem_replicate hx];exact Nat.zero_le _,rfl⟩
theorem AkQ (E l:List Nat):Ayv E l.length (cnt E l):=by
 have:∀ (l:List Nat) (s:List Nat × Nat × Nat) (m:Nat),Ayv E m s→Ayv E (m+l.length) (l.foldl (stp E) s):=by
  intro l
  induction l with
  | nil=>intro s m h;exact h
  | cons x l ih=>intro s m h;rw [List.foldl_cons,List.length_cons,show m+(l.length+1)=m+1+l.length by omega];exact ih _ _ (stp_ok h x)
 have h:=this l _ 0 (cnt_zero E)
 rwa [Nat.zero_add] at h
end Go.Eng.Ga
namespace Go.Eng.Ga
open Go Go.Eng
variable [Inhabited GlobT]
attribute [local irreducible] OpR TL TD TC TS Ak
structure GS where
 C:List Nat
 n:Nat
 a:Nat
 lo:Nat
 hi:Nat
abbrev gvs (E:List Nat) (s:GS):Zv:=gv E s.C s.n s.a s.lo s.hi
def addS (E:List Nat) (s:GS) (x:Nat):GS :=
 if fN x then ⟨s.C,s.n+1,s.a,s.lo,s.hi⟩ else ⟨bump (fillC E s.C) (stepN E x),s.n,s.a+1,minF (if s.a=0 then x else s.lo) x,maxF (if s.a=0 then x else s.hi) x⟩
def gOf (E l:List Nat):GS:=l.foldl (addS E) ⟨[],0,0,0,0⟩
theorem gOf_snoc (E l:List Nat) (x:Nat):gOf E (l++[x])=addS E (gOf E l) x:=by unfold gOf;rw [List.foldl_append];rfl
theorem Aqs (E:List Nat) {l:List Nat} {i:Nat} (h:i<l.length):gOf E (l.take (i+1))=addS E (gOf E (l.take i)) (l.getD i 0):=by rw [Alf h,gOf_snoc]
structure GsOk (E:List Nat) (s:GS) (c:List Nat × Nat × Nat):Prop where
 c1:fillC E s.C=c.1
 c2:s.n=c.2.1
 c3:s.a=c.2.2
 len:s.C=[]∨s.C.length=E.length+1
 le:∀ x∈s.C,x≤s.a
 ol:W64 s.lo
 oh:W64 s.hi
theorem Bbi {E C:List Nat} (h:C.length=E.length+1):fillC E C=C:=by unfold fillC;rw [h,Nat.sub_self];simp
theorem minF_w {a b:Nat} (ha:W64 a) (hb:W64 b):W64 (minF a b):=by
 unfold minF
 split
 ·exact hb
 ·exact ha
theorem maxF_w {a b:Nat} (ha:W64 a) (hb:W64 b):W64 (maxF a b):=by
 unfold maxF
 split
 ·exact hb
 ·exact ha
theorem addS_ok {E:List Nat} {s:GS} {c:List Nat × Nat × Nat} (h:GsOk E s c) (hc:c.1.length=E.length+1) (hl:∀ x∈c.1,x≤c.2.2) {x:Nat} (hx:W64 x):GsOk E (addS E s x) (stp E c x):=by
 unfold addS stp
 obtain⟨h1,h2,h3,h4,h5,h6,h7⟩:=h
 split
 ·exact⟨h1,by simp only;omega,h3,h4,h5,h6,h7⟩
 ·have hb:(bump (fillC E s.C) (stepN E x)).length=E.length+1:=by rw [AzY,h1,hc]
  refine⟨?_,h2,by simp only;omega,.inr hb,?_,?_,?_⟩
  ·rw [Bbi hb,h1]
  ·rw [h1,h3];exact bump_le hl
  ·refine minF_w ?_ hx
   split
   ·exact hx
   ·exact h6
  ·refine maxF_w ?_ hx
   split
   ·exact hx
   ·exact h7
theorem gOf_ok (E:List Nat) {l:List Nat} (hL:∀ x∈l,W64 x):GsOk E (gOf E l) (cnt E l):=by
 have hz:GsOk E (gOf E []) (cnt E []):=⟨by simp [gOf,cnt,fillC],rfl,rfl,.inl rfl,(fun x hx=>absurd hx List.not_mem_nil),show W64 0 by decide,show W64 0 by decide⟩
 have:∀ i,i≤l.length→GsOk E (gOf E (l.take i)) (cnt E (l.take i)):=by
  intro i
  induction i with
  | zero=>intro _;rw [List.take_zero];exact hz
  | succ i ih =>
    intro hi
    rw [Aqs E (by omega),ArM E (by omega)]
    have hk:=AkQ E (l.take i)
    exact addS_ok (ih (by omega)) hk.len hk.le (AdR hL i)
 have h:=this l.length (Nat.le_refl _)
 rwa [List.take_length] at h
theorem AoR {l:List Nat} (hL:∀ x∈l,W64 x) (i:Nat):∀ x∈l.take i,W64 x:=fun x hx=>hL x (List.mem_of_mem_take hx)
theorem OkG.of {E:List Nat} (hE:OkE E) (hel:E.length<4294967296) {s:GS} {c:List Nat × Nat × Nat} (h:GsOk E s c) {m:Nat} (hk:Ayv E m c) (hm:m<4294967296):OkG E s.C s.n s.a s.lo s.hi :=
 ⟨hE,hel,h.len,by have:=hk.sum;have:=h.c2;omega,by have:=hk.sum;have:=h.c3;omega,h.le,h.ol,h.oh⟩
theorem addS_call (E:List Nat) (s:GS) (h:OkG E s.C s.n s.a s.lo s.hi) (x:Nat) (hx:W64 x):Ak APg Abd [gvs E s,fl x] (gvs E (addS E s x)):=by
 unfold addS
 cases hn:fN x
 ·exact addX_ok E s.C s.n s.a s.lo s.hi h x hx hn
 ·exact addN_ok E s.C s.n s.a s.lo s.hi h x hx hn
end Go.Eng.Ga
namespace Go.Eng.Ga
open Go Go.Eng
variable [Inhabited GlobT]
attribute [local irreducible] OpR TL TD TC TS Ak
structure SP where
 lo:Nat
 hi:Nat
 b:Bool
def spS (s:SP) (x:Nat):SP:=if fN x then s else ⟨if s.b then minF s.lo x else x,if s.b then maxF s.hi x else x,true⟩
def spL (l:List Nat):SP:=l.foldl spS ⟨9221120237041090561,9221120237041090561,false⟩
theorem spL_snoc (l:List Nat) (x:Nat):spL (l++[x])=spS (spL l) x:=by unfold spL;rw [List.foldl_append];rfl
theorem ApO {l:List Nat} {i:Nat} (h:i<l.length):spL (l.take (i+1))=spS (spL (l.take i)) (l.getD i 0):=by rw [Alf h,spL_snoc]
structure IsG (E l:List Nat) (s:GS):Prop where
 c1:fillC E s.C=(cnt E l).1
 c2:s.n=(cnt E l).2.1
 c3:s.a=(cnt E l).2.2
 cl:s.C.length≤E.length+1
 b:(spL l).b=decide (s.a≠0)
 ol:W64 s.lo
 oh:W64 s.hi
 lo:s.a≠0→sameF s.lo (spL l).lo=true
 hi:s.a≠0→sameF s.hi (spL l).hi=true
end Go.Eng.Ga
namespace Go.Eng.Ga
open Go Go.Eng Ieee
variable [Inhabited GlobT]
attribute [local irreducible] OpR TL TD TC TS Ak
end Go.Eng.Ga
namespace Go.Eng.Ga
open Go Go.Eng Ieee
variable [Inhabited GlobT]
attribute [local irreducible] OpR TL TD TC TS Ak
end Go.Eng.Ga
namespace Go.Eng.Ga
open Go Go.Eng Ieee
variable [Inhabited GlobT]
attribute [local irreducible] OpR TL TD TC TS Ak
end Go.Eng.Ga
namespace Go.Eng.Ga
open Go Go.Eng Ieee
variable [Inhabited GlobT]
attribute [local irreducible] OpR TL TD TC TS Ak
theorem gOf_sp (E:List Nat) (l:List Nat):(spL l).b=decide ((gOf E l).a≠0)∧((gOf E l).a≠0→(gOf E l).lo=(spL l).lo∧(gOf E l).hi=(spL l).hi):=by
 have:∀ i,i≤l.length→(spL (l.take i)).b=decide ((gOf E (l.take i)).a≠0)∧((gOf E (l.take i)).a≠0→(gOf E (l.take i)).lo=(spL (l.take i)).lo∧(gOf E (l.take i)).hi=(spL (l.take i)).hi):=by
  intro i
  induction i with
  | zero=>intro _;rw [List.take_zero];exact⟨rfl,fun h=>absurd rfl h⟩
  | succ i ih =>
    intro hi
    obtain⟨h1,h2⟩:=ih (by omega)
    rw [Aqs E (by omega),ApO (by omega)]
    unfold addS spS
    split
    ·exact⟨h1,h2⟩
    ·refine⟨(decide_eq_true (by simp)).symm,fun _=>?_⟩
     dsimp only
     by_cases g:(gOf E (l.take i)).a=0
     ·rw [g] at h1
      rw [h1,if_pos g,if_pos g]
      exact⟨by unfold minF;simp,by unfold maxF;simp⟩
     ·rw [decide_eq_true g] at h1
      rw [h1,if_neg g,if_neg g,(h2 g).1,(h2 g).2]
      exact⟨rfl,rfl⟩
 have h:=this l.length (Nat.le_refl _)
 rwa [List.take_length] at h
theorem Ajj (a:Nat):sameF a a=true:=decide_eq_true rfl
end Go.Eng.Ga
namespace Go.Eng.Ga
open Go Go.Eng Ieee
variable [Inhabited GlobT]
attribute [local irreducible] OpR TL TD TC TS Ak
end Go.Eng.Ga
namespace Go.Eng.Ga
open Go Go.Eng Ieee
variable [Inhabited GlobT]
attribute [local irreducible] OpR TL TD TC TS Ak
end Go.Eng.Ga
namespace Go.Eng.Ga
open Go Go.Eng
variable [Inhabited GlobT]
attribute [local irreducible] OpR TL TD TC TS Ak
def addL (C D:List Nat):List Nat:=List.zipWith (·+·) C D
theorem get_of {C:List Nat} {j:Nat} (h:j<C.length):C[j]?=some (C.getD j 0):=by rw [List.getD_eq_getElem?_getD,List.getElem?_eq_getElem h];rfl
end Go.Eng.Ga
namespace Go.Eng.Ga
open Go Go.Eng Ieee
variable [Inhabited GlobT]
theorem addL_len {C D:List Nat} (h:C.length=D.length):(addL C D).length=C.length:=by unfold addL;rw [List.length_zipWith];omega
theorem addL_get {C D:List Nat} (h:C.length=D.length) (i:Nat):(addL C D).getD i 0=C.getD i 0+D.getD i 0:=by
 unfold addL
 rw [List.getD_eq_getElem?_getD,List.getElem?_zipWith]
 by_cases hi:i<C.length
 ·rw [get_of hi,get_of (by omega:i<D.length)];rfl
 ·rw [List.getElem?_eq_none (by omega),List.getD_eq_getElem?_getD,List.getD_eq_getElem?_getD,List.getElem?_eq_none (by omega),List.getElem?_eq_none (by omega)];rfl
theorem list_eq {C D:List Nat} (h:C.length=D.length) (hg:∀ i,i<C.length→C.getD i 0=D.getD i 0):C=D:=by
 refine List.ext_getElem? fun i=>?_
 by_cases hi:i<C.length
 ·rw [get_of hi,get_of (by omega:i<D.length),hg i hi]
 ·rw [List.getElem?_eq_none (by omega),List.getElem?_eq_none (by omega)]
theorem bump_get {C:List Nat} {i:Nat} (h:i<C.length) (j:Nat):(bump C i).getD j 0=C.getD j 0+if i=j then 1 else 0:=by
 unfold bump
 rw [List.getD_eq_getElem?_getD,List.getElem?_set]
 by_cases hij:i=j
 ·subst hij
  rw [if_pos rfl,if_pos h,if_pos rfl];rfl
 ·rw [if_neg hij,if_neg hij,←List.getD_eq_getElem?_getD];rfl
theorem addL_comm (C D:List Nat):addL C D=addL D C:=by
 unfold addL
 rw [List.zipWith_comm]
 congr 1
 funext a b
 exact Nat.add_comm _ _
theorem cnt_app (E l r:List Nat):cnt E (l++r)=(addL (cnt E l).1 (cnt E r).1,(cnt E l).2.1+(cnt E r).2.1,(cnt E l).2.2+(cnt E r).2.2):=by
 have hl:=(AkQ E l).len
 have:∀ i,i≤r.length→cnt E (l++r.take i)=(addL (cnt E l).1 (cnt E (r.take i)).1,(cnt E l).2.1+(cnt E (r.take i)).2.1,(cnt E l).2.2+(cnt E (r.take i)).2.2):=by
  intro i
  induction i with
  | zero =>
    intro _
    rw [List.take_zero,List.append_nil]
    have e:cnt E []=(List.replicate (E.length+1) 0,0,0):=rfl
    rw [e]
    have h2:addL (cnt E l).1 (List.replicate (E.length+1) 0)=(cnt E l).1:=by
     refine list_eq (addL_len (by simp [hl])) fun i _=>?_
     have hz:(List.replicate (E.length+1) 0).getD i 0=0:=by
      rw [List.getD_eq_getElem?_getD,List.getElem?_replicate]
      split<;>simp
     rw [addL_get (by simp [hl]),hz];rfl
    rw [h2];rfl
  | succ i ih =>
    intro hi
    have h1:=ih (by omega)
    have hr:=(AkQ E (r.take i)).len
    have e:l++r.take (i+1)=(l++r.take i)++[r.getD i 0]:=by rw [Alf (by omega),List.append_assoc]
    rw [e,cnt_snoc,h1,ArM E (by omega)]
    generalize cnt E (r.take i)=c at *
    obtain⟨D,n,a⟩:=c
    dsimp only at hr ⊢
    unfold stp
    split
    ·rfl
    ·dsimp only
     have hs:=ApL E (r.getD i 0)
     have hal:(addL (cnt E l).1 D).length=E.length+1:=by rw [addL_len (by omega),hl]
     have h3:bump (addL (cnt E l).1 D) (stepN E (r.getD i 0))=addL (cnt E l).1 (bump D (stepN E (r.getD i 0))):=by
      refine list_eq (by rw [AzY,addL_len (by omega),addL_len (by rw [AzY];omega)]) fun j _=>?_
      rw [bump_get (by omega),addL_get (by omega),addL_get (by rw [AzY];omega),bump_get (by omega)]
      omega
     rw [h3];rfl
 have h:=this r.length (Nat.le_refl _)
 rwa [List.take_length] at h
def MinOf (l:List Nat) (v:Nat):Prop:=v∈l∧fN v=false∧∀ x∈l,fN x=false→fT v≤fT x
def MaxOf (l:List Nat) (v:Nat):Prop:=v∈l∧fN v=false∧∀ x∈l,fN x=false→fT x≤fT v
theorem minF_le (a b:Nat):fT (minF a b)≤fT a∧fT (minF a b)≤fT b:=by unfold minF;split<;>omega
theorem maxF_le (a b:Nat):fT a≤fT (maxF a b)∧fT b≤fT (maxF a b):=by unfold maxF;split<;>omega
theorem minF_or (a b:Nat):minF a b=a∨minF a b=b:=by unfold minF;split<;>simp
theorem maxF_or (a b:Nat):maxF a b=a∨maxF a b=b:=by unfold maxF;split<;>simp
theorem MinOf.app {l r:List Nat} {u v:Nat} (h:MinOf l u) (h':MinOf r v):MinOf (l++r) (minF u v):=by
 obtain⟨h1,h2,h3⟩:=h
 obtain⟨g1,g2,g3⟩:=h'
 have hm:=minF_le u v
 refine⟨?_,?_,fun x hx hn=>?_⟩
 ·rcases minF_or u v with e | e<;>rw [e]<;>simp [h1,g1]
 ·rcases minF_or u v with e | e<;>rw [e]<;>assumption
 ·rcases List.mem_append.1 hx with k | k
  ·have:=h3 x k hn;omega
  ·have:=g3 x k hn;omega
theorem MaxOf.app {l r:List Nat} {u v:Nat} (h:MaxOf l u) (h':MaxOf r v):MaxOf (l++r) (maxF u v):=by
 obtain⟨h1,h2,h3⟩:=h
 obtain⟨g1,g2,g3⟩:=h'
 have hm:=maxF_le u v
 refine⟨?_,?_,fun x hx hn=>?_⟩
 ·rcases maxF_or u v with e | e<;>rw [e]<;>simp [h1,g1]
 ·rcases maxF_or u v with e | e<;>rw [e]<;>assumption
 ·rcases List.mem_append.1 hx with k | k
  ·have:=h3 x k hn;omega
  ·have:=g3 x k hn;omega
theorem MinOf.l {l r:List Nat} {u:Nat} (h:MinOf l u) (hr:∀ x∈r,fN x=true):MinOf (l++r) u :=
 ⟨List.mem_append_left _ h.1,h.2.1,fun x hx hn=>by
   rcases List.mem_append.1 hx with k | k
   ·exact h.2.2 x k hn
   ·rw [hr x k] at hn;cases hn⟩
theorem MaxOf.l {l r:List Nat} {u:Nat} (h:MaxOf l u) (hr:∀ x∈r,fN x=true):MaxOf (l++r) u :=
 ⟨List.mem_append_left _ h.1,h.2.1,fun x hx hn=>by
   rcases List.mem_append.1 hx with k | k
   ·exact h.2.2 x k hn
   ·rw [hr x k] at hn;cases hn⟩
theorem MinOf.same {l:List Nat} {u v:Nat} (h:MinOf l u) (h':MinOf l v):sameF u v=true:=by
 have h1:=h.2.2 v h'.1 h'.2.1
 have h2:=h'.2.2 u h.1 h.2.1
 exact decide_eq_true (by omega)
theorem MaxOf.same {l:List Nat} {u v:Nat} (h:MaxOf l u) (h':MaxOf l v):sameF u v=true:=by
 have h1:=h.2.2 v h'.1 h'.2.1
 have h2:=h'.2.2 u h.1 h.2.1
 exact decide_eq_true (by omega)
theorem MinOf.of {l r:List Nat} {u:Nat} (h:MinOf l u) (hm:∀ x,x∈l↔x∈r):MinOf r u:=⟨(hm u).1 h.1,h.2.1,fun x hx=>h.2.2 x ((hm x).2 hx)⟩
theorem MaxOf.of {l r:List Nat} {u:Nat} (h:MaxOf l u) (hm:∀ x,x∈l↔x∈r):MaxOf r u:=⟨(hm u).1 h.1,h.2.1,fun x hx=>h.2.2 x ((hm x).2 hx)⟩
theorem one_min {x:Nat} (h:fN x=false):MinOf [x] x∧MaxOf [x] x :=
 ⟨⟨List.mem_singleton.2 rfl,h,fun y hy _=>by rw [List.mem_singleton.1 hy];exact Int.le_refl _⟩,⟨List.mem_singleton.2 rfl,h,fun y hy _=>by rw [List.mem_singleton.1 hy];exact Int.le_refl _⟩⟩
theorem spL_spec (l:List Nat):if (spL l).b=true then MinOf l (spL l).lo∧MaxOf l (spL l).hi else ∀ x∈l,fN x=true:=by
 have:∀ i,i≤l.length→if (spL (l.take i)).b=true then MinOf (l.take i) (spL (l.take i)).lo∧MaxOf (l.take i) (spL (l.take i)).hi else ∀ x∈l.take i,fN x=true:=by
  intro i
  induction i with
  | zero=>intro _;rw [List.take_zero];simp [spL]
  | succ i ih =>
    intro hi
    have h1:=ih (by omega)
    rw [ApO (by omega),Alf (by omega)]
    generalize spL (l.take i)=q at *
    generalize l.take i=r at *
    generalize l.getD i 0=x at *
    obtain⟨lo,hh,b⟩:=q
    unfold spS
    cases hn:fN x
    ·simp only [Bool.false_eq_true,if_false,if_true]
     cases b
     ·simp only [Bool.false_eq_true,if_false] at h1 ⊢
      refine⟨⟨by simp,hn,fun y hy hy2=>?_⟩,⟨by simp,hn,fun y hy hy2=>?_⟩⟩
      ·rcases List.mem_append.1 hy with k | k
       ·rw [h1 y k] at hy2;cases hy2
       ·rw [List.mem_singleton.1 k];exact Int.le_refl _
      ·rcases List.mem_append.1 hy with k | k
       ·rw [h1 y k] at hy2;cases hy2
       ·rw [List.mem_singleton.1 k];exact Int.le_refl _
     ·simp only [if_true] at h1 ⊢
      exact⟨h1.1.app (one_min hn).1,h1.2.app (one_min hn).2⟩
    ·simp only [if_true]
     cases b
     ·simp only [Bool.false_eq_true,if_false] at h1 ⊢
      intro y hy
      rcases List.mem_append.1 hy with k | k
      ·exact h1 y k
      ·rw [List.mem_singleton.1 k];exact hn
     ·simp only [if_true] at h1 ⊢
      have hr:∀ y∈[x],fN y=true:=fun y hy=>by rw [List.mem_singleton.1 hy];exact hn
      exact⟨h1.1.l hr,h1.2.l hr⟩
 have h:=this l.length (Nat.le_refl _)
 rwa [List.take_length] at h
theorem gOf_spec (E l:List Nat):((gOf E l).a≠0→MinOf l (gOf E l).lo∧MaxOf l (gOf E l).hi)∧((gOf E l).a=0→∀ x∈l,fN x=true):=by
 obtain⟨h1,h2⟩:=gOf_sp E l
 have h3:=spL_spec l
 refine⟨fun h=>?_,fun h=>?_⟩
 ·rw [decide_eq_true h] at h1
  rw [if_pos h1] at h3
  rw [(h2 h).1,(h2 h).2]
  exact h3
 ·rw [decide_eq_false (by omega)] at h1
  rw [if_neg (by rw [h1];simp)] at h3
  exact h3
theorem cnt_swap (E l r:List Nat):cnt E (l++r)=cnt E (r++l):=by
 rw [cnt_app,cnt_app,addL_comm,Nat.add_comm (cnt E l).2.1,Nat.add_comm (cnt E l).2.2]
end Go.Eng.Ga
namespace Go.Eng.Ga
open Go Go.Eng Ieee
variable [Inhabited GlobT]
attribute [local irreducible] OpR TL TD TC TS Ak
theorem rowOk_en (E:List Nat) (i:Nat):AkY 1 (Option.map (fun w=>[fl w]) E[i]?)=true:=by
 cases E[i]?<;>rfl
theorem o_from {AP:Aaa} {m:FM} {slot:Nat} {S:Ab} {x a:Ag} {k:IntKind} {E:List Nat} {l:Nat} (hx:lo m x=some (.imm (en E))) (ha:lo m a=some (.int k (l:Int))) (hl:l≤E.length) :
 OpR AP m slot S (.slice 1 x (some a) none none) (.imm (en (E.drop l))) S ([],[]):=by
 have h2:=rowOk_en E l
 refine Adv fun fr hfr n=>?_
 simp [Av,sem,hfr.opd hx,hfr.opd ha,Bc]
 rw [if_pos hl]
 dsimp only
 rw [h2]
 simp [RM.run,List.take_of_length_le,List.map_drop]
theorem o_upto {AP:Aaa} {m:FM} {slot:Nat} {S:Ab} {x a:Ag} {k:IntKind} {E:List Nat} {l:Nat} (hx:lo m x=some (.imm (en E))) (ha:lo m a=some (.int k (l:Int))) (hl:l≤E.length) :
 OpR AP m slot S (.slice 1 x none (some a) none) (.imm (en (E.take l))) S ([],[]):=by
 have h2:=rowOk_en E 0
 refine Adv fun fr hfr n=>?_
 simp [Av,sem,hfr.opd hx,hfr.opd ha,Bc]
 rw [if_pos hl]
 dsimp only
 rw [h2]
 simp [RM.run,List.map_take]
end Go.Eng.Ga
namespace Go.Eng.Ga
open Go Go.Eng
variable [Inhabited GlobT]
def AccG (S:Ab) (v:Zv) (rows:List (List Zv)):Prop:=(v = .nils∧rows=[])∨∃ b,v = .view b 0 rows.length false∧S[b]?=some (some ⟨1,rows⟩)
theorem tl_accg {AP:Aaa} {N:Nat} {d:Option Nat} {x y:Ag} {v:Zv} {rows new:List (List Zv)} {g:Option (Nat × Bool)} {un:List Nat} {l:List Ae} {m:FM} {S:Ab} {K:FM→Ab→Prop}
 (hx:lo m x=some v) (hy:lo m y=some (.imm new)) (h:AccG S v rows) (hr:AkY 1 new.head?=true) (hst:(new.all fun r=>r.all An)=true) (hb:(rows.length+new.length)*8≤17592186044416)
 (hd:(d.all fun d=>d<N)=true) (hg:gd m g=some true)
 (hk:∀ v' S',AccG S' v' (rows++new)→TL AP N l (putM m d v') S' K):TL AP N (⟨d,.append 1 8 x y,g,un⟩::l) m S K:=by
 have hrow:Bq 1 (.imm new) = .ok new:=by simp [Bq,hr]
 cases new with
 | nil =>
   rw [List.append_nil] at hk
   rcases h with⟨rfl,rfl⟩ | ⟨b,rfl,h2⟩
   ·refine AH (S':=S++[none]) (v := .nils) (fp:=([],[])) (Adv fun fr hfr n=>?_) rfl hd hg rfl (hk _ _ (.inl ⟨rfl,rfl⟩))
    simp only [Av,sem,hfr.opd hx,hfr.opd hy,hrow]
    rfl
   ·have h3:(S++[none])[b]?=some (some ⟨1,rows⟩):=by rw [List.getElem?_append_left (List.getElem?_eq_some_iff.1 h2).1];exact h2
    refine AH (S':=S++[none]) (v := .view b 0 rows.length false) (fp:=([b],[])) (BaH fun fr hfr n=>?_) rfl hd hg rfl (hk _ _ (.inr ⟨b,rfl,h3⟩))
    simp only [Av,sem,hfr.opd hx,hfr.opd hy,hrow,RM.bind,Bm,RM.run,h3]
 | cons r new =>
   rcases h with⟨rfl,rfl⟩ | ⟨b,rfl,h2⟩
   ·refine AH (Ais hx hy hrow (by simp) (by simpa using hb)) rfl hd hg rfl ?_
    refine hk _ _ (.inr ⟨S.length,by simp,by simp⟩)
   ·have hbl:b<S.length:=(List.getElem?_eq_some_iff.1 h2).1
    refine AH (Air hx hy hrow (by simp) (rows0:=rows) (by rw [List.getElem?_append_left hbl];exact h2) rfl hb hst) rfl hd hg rfl ?_
    refine hk _ _ (.inr ⟨S.length,by simp,?_⟩)
    rw [Af,if_pos ⟨rfl,by simp⟩]
attribute [local irreducible] OpR TL TD TC TS Ak
theorem en_row (A:List Nat):AkY 1 (en A).head?=true:=by cases A<;>rfl
theorem en_st (A:List Nat):((en A).all fun r=>r.all An)=true:=by
 rw [List.all_eq_true]
 intro r hr
 obtain⟨x,-,rfl⟩:=List.mem_map.1 hr
 rfl
def cc (A B:List Nat):Nat→List Nat
 | 0=>[]
 | 1=>A
 | _=>A++B
theorem concat_ok (A B:List Nat) (hl:A.length+B.length≤1000) :
 ∃ v S1,CallSR APg Occ [.lim [[.imm (en A)],[.imm (en B)]]] [] v S1∧AccG S1 v (en (A++B)):=by
 have hA:(en A).length=A.length:=List.length_map _
 have hB:(en B).length=B.length:=List.length_map _
 refine callSR_of (Pst:=fun v S=>AccG S v (en (A++B))) (af:=Ocb) rfl rfl ?_
 refine tS (tO (tR 1 rfl (tN (tS (tO (tR 1 rfl ?_))))))
 refine tN (tS (tS (tO (tR 3 rfl (tN ?_)))))
 refine tB (lST (σ:=Nat) (fun i=>2 - i) (fun i=>[(0,.lim [[.imm (en A)],[.imm (en B)]]),(2,.nils),(3,.int .i64 ((cc A B i).length:Int)),(9,.lim [[.imm (en A)],[.imm (en B)]]),(10,.int .i64 (2:Int)),(11,.int .i64 (i:Int))])
  (fun i S=>i≤2∧S=[]) 0 (by (repeat' (first | exact wN | refine wC rfl ?_))) ⟨by omega,rfl⟩ ?_)
 rintro i S ⟨hi,rfl⟩
 refine tS (tO (tR 1 rfl (tN (tS ?_))))
 refine tQ rfl decide_eq_true_iff (fun c=>tK ?_) (fun c=>tX ?_)
 ·obtain rfl | rfl:i=0∨i=1:=by omega
  ·refine tS ?_;refine tB ?_;refine tS (tO (tR 3 rfl (tN (tS (tO ?_)))))
   refine tR 3 rfl ?_
   refine tP (o_add rfl rfl (c:=((cc A B 1).length:Int)) (by show ((0:Nat):Int)+_=_;rw [hA];simp [cc]) (by omega) (by simp only [cc];omega)) rfl rfl rfl rfl ?_
   refine tR 1 rfl (tN (tS (tO (tR 2 rfl (tN ?_)))))
   refine AI (t:=false) rfl (fun h=>nomatch h) (fun _=>?_);refine tK (tO ?_)
   refine tP (oB (v := .int .i64 1) rfl rfl rfl) rfl rfl rfl rfl ?_;refine tR 1 rfl (tN ?_)
   rw [show decide (((cc A B 1).length:Int)<0)=false from decide_eq_false (by omega)]
   exact⟨1,by omega,by (repeat' (first | exact wN | refine wC rfl ?_)),by omega,rfl⟩
  ·refine tS ?_;refine tB ?_;refine tS (tO (tR 3 rfl (tN (tS (tO ?_)))))
   refine tR 3 rfl ?_
   refine tP (o_add rfl rfl (c:=((cc A B 2).length:Int)) (by rw [hB];simp [cc]) (by omega) (by simp only [cc,List.length_append];omega)) rfl rfl rfl rfl ?_
   refine tR 1 rfl (tN (tS (tO (tR 2 rfl (tN ?_)))))
   refine AI (t:=false) rfl (fun h=>nomatch h) (fun _=>?_);refine tK (tO ?_)
   refine tP (oB (v := .int .i64 2) rfl rfl rfl) rfl rfl rfl rfl ?_;refine tR 1 rfl (tN ?_)
   rw [show decide (((cc A B 2).length:Int)<0)=false from decide_eq_false (by omega)]
   exact⟨2,by omega,by (repeat' (first | exact wN | refine wC rfl ?_)),by omega,rfl⟩
 ·have:i=2:=by omega
  subst this
  refine tS (tO (tR 1 rfl ?_))
  refine tl_grow rfl rfl (by simp only [cc,List.length_append];omega) rfl rfl ?_
  intro v S hv hlt
  have hacc:AccG S v (en (cc A B 0)):=by
   rcases hv with⟨rfl,-⟩ | ⟨rfl,h⟩
   ·exact .inl ⟨rfl,rfl⟩
   ·exact .inr ⟨_,rfl,h⟩
  clear hv hlt
  refine tP (Br rfl) rfl rfl rfl rfl ?_;refine tN (tS (tS (tO (tR 3 rfl ?_))))
  refine tN ?_
  refine tB (lST (σ:=Nat × Zv) (fun s=>2 - s.1) (fun s=>[(2,.nils),(6,s.2),(25,.lim [[.imm (en A)],[.imm (en B)]]),(26,.int .i64 (2:Int)),(27,.int .i64 (s.1:Int))])
   (fun s S=>s.1≤2∧AccG S s.2 (en (cc A B s.1))) (0,v) (by (repeat' (first | exact wN | refine wC rfl ?_))) ⟨by omega,hacc⟩ ?_)
  clear hacc
  rintro⟨i,v⟩ S ⟨hi,hacc⟩
  dsimp only at hi hacc ⊢
  refine tS (tO (tR 1 rfl (tN (tS ?_))))
  refine tQ rfl decide_eq_true_iff (fun c=>tK ?_) (fun c=>tX ?_)
  ·obtain rfl | rfl:i=0∨i=1:=by omega
   ·refine tS ?_;refine tB ?_;refine tS (tO (tR 3 rfl (tN (tO ?_))))
    refine tP (Br rfl) rfl rfl rfl rfl ?_;refine tR 1 rfl ?_
    refine tl_accg rfl rfl hacc (en_row A) (en_st A) (by rw [hA];simp only [cc,List.length_map,List.length_nil];omega) rfl rfl fun v' S' h'=>?_
    refine tP (Br rfl) rfl rfl rfl rfl ?_;refine tN (tO ?_)
    refine tP (oB (v := .int .i64 1) rfl rfl rfl) rfl rfl rfl rfl ?_;refine tR 1 rfl (tN ?_)
    exact⟨(1,v'),by simp,by (repeat' (first | exact wN | refine wC rfl ?_)),by simp,h'⟩
   ·refine tS ?_;refine tB ?_;refine tS (tO (tR 3 rfl (tN (tO ?_))))
    refine tP (Br rfl) rfl rfl rfl rfl ?_;refine tR 1 rfl ?_
    refine tl_accg rfl rfl hacc (en_row B) (en_st B) (by rw [hB];simp only [cc,List.length_map];omega) rfl rfl fun v' S' h'=>?_
    refine tP (Br rfl) rfl rfl rfl rfl ?_;refine tN (tO ?_)
    refine tP (oB (v := .int .i64 2) rfl rfl rfl) rfl rfl rfl rfl ?_;refine tR 1 rfl (tN ?_)
    exact⟨(2,v'),by simp,by (repeat' (first | exact wN | refine wC rfl ?_)),by simp,by rw [show en (cc A B 2)=en (cc A B 1)++en B from List.map_append];exact h'⟩
  ·have:i=2:=by omega
   subst this
   refine tS (tO ?_);refine tP (Br rfl) rfl rfl rfl rfl ?_;refine tP (Br rfl) rfl rfl rfl rfl ?_;refine tN ?_
   exact tT ⟨.inr rfl,[v],rfl,hacc⟩
end Go.Eng.Ga
namespace Go.Eng.Ga
open Go Go.Eng
variable [Inhabited GlobT]
attribute [local irreducible] OpR TL TD TC TS Ak
def rv (L:List Nat) (t:Nat):List Nat:=(List.range L.length).map fun p=>if p<t∨L.length≤p+t then L.getD (L.length - 1 - p) 0 else L.getD p 0
theorem rv_len (L:List Nat) (t:Nat):(rv L t).length=L.length:=by simp [rv]
theorem rv_get (L:List Nat) (t p:Nat) (h:p<L.length):(rv L t)[p]?=some (if p<t∨L.length≤p+t then L.getD (L.length - 1 - p) 0 else L.getD p 0):=by
 unfold rv
 rw [List.getElem?_map,List.getElem?_range h];rfl
theorem rv_zero (L:List Nat):rv L 0=L:=by
 refine List.ext_getElem? fun p=>?_
 by_cases h:p<L.length
 ·rw [rv_get L 0 p h,if_neg (by omega)]
  exact(get_of h).symm
 ·rw [List.getElem?_eq_none (by rw [rv_len];omega),List.getElem?_eq_none (by omega)]
theorem rv_end (L:List Nat) {t:Nat} (h:L.length≤2*t+1):rv L t=L.reverse:=by
 refine List.ext_getElem? fun p=>?_
 by_cases hp:p<L.length
 ·rw [rv_get L t p hp,List.getElem?_reverse hp,get_of (show L.length - 1 - p<L.length by omega)]
  split
  ·rfl
  ·rw [show L.length - 1 - p=p by omega]
 ·rw [List.getElem?_eq_none (by rw [rv_len];omega),List.getElem?_eq_none (by rw [List.length_reverse];omega)]
theorem rv_getD (L:List Nat) {t p:Nat} (h:p<L.length) (h1:t≤p) (h2:p+t<L.length):(rv L t).getD p 0=L.getD p 0:=by
 rw [List.getD_eq_getElem?_getD,rv_get L t p h,if_neg (by omega)];rfl
theorem rv_step (L:List Nat) {t:Nat} (h:2*t+1<L.length):((rv L t).set t ((rv L t).getD (L.length - 1 - t) 0)).set (L.length - 1 - t) ((rv L t).getD t 0)=rv L (t+1):=by
 rw [rv_getD L (by omega) (by omega) (by omega),rv_getD L (by omega) (by omega) (by omega)]
 refine List.ext_getElem? fun p=>?_
 by_cases hp:p<L.length
 ·rw [List.getElem?_set,rv_get L (t+1) p hp]
  split
  ·rename_i he
   rw [if_pos (by rw [List.length_set,rv_len];omega),if_pos (by omega),show L.length - 1 - p=t by omega]
  ·rw [List.getElem?_set]
   split
   ·rename_i he
    rw [if_pos (by rw [rv_len];omega),if_pos (by omega),←he]
   ·rw [rv_get L t p hp]
    by_cases hc:p<t∨L.length≤p+t
    ·rw [if_pos hc,if_pos (by omega)]
    ·rw [if_neg hc,if_neg (by omega)]
 ·rw [List.getElem?_eq_none (by simp [rv_len];omega),List.getElem?_eq_none (by rw [rv_len];omega)]
theorem rev_tc {K:Zv→Ab→Prop} {L:List Nat} (h0:L≠[]) (hl:L.length≤1000) (h:K (.tuple []) [some ⟨1,en L.reverse⟩]) :
 TC APg (max Oca.nargs Oca.N) Oca.body (Awo 0 [.view 0 0 L.length false]) [some ⟨1,en L⟩] fun ex m2 S2=>(ex = .normal∨ex = .ret)∧∃ vs,Abx m2 S2 Oca.res=some vs∧K (one vs) S2:=by
 have hn:0<L.length:=List.length_pos_iff.2 h0
 refine tS (tO (tR 2 rfl ?_));refine tP (AaH (b:=1) rfl rfl (by omega) (by omega)) rfl rfl rfl rfl ?_
 refine tR 2 rfl (tN ?_)
 refine tB (lST (σ:=Nat) (fun t=>L.length - t) (fun t=>[(0,.view 0 0 L.length false),(2,.int .i64 (t:Int)),(3,.int .i64 ((L.length - 1 - t:Nat):Int))])
  (fun t S=>2*t≤L.length∧S=[some ⟨1,en (rv L t)⟩]) 0 (by (repeat' (first | exact wN | refine wC rfl ?_))) ⟨by omega,by rw [rv_zero]⟩ ?_)
 rintro t S ⟨ht,rfl⟩
 have hlen:=rv_len L t
 refine tS (tS (tO (tR 3 rfl (tN ?_))))
 refine tQ rfl decide_eq_true_iff (fun c=>tK ?_) (fun c=>tX ?_)
 ·have c':2*t+1<L.length:=by omega
  have hs:=rv_step L c'
  generalize rv L t=R at *
  have ht1:t<L.length:=by omega
  have ht2:L.length - 1 - t<L.length:=by omega
  have hr1:t<R.length:=by omega
  have hr2:L.length - 1 - t<R.length:=by omega
  refine tS ?_;refine tB ?_;refine tD0 rfl ?_;refine dR 6 rfl ?_;refine dP rfl rfl (AE rfl rfl (by omega) rfl rfl) ?_
  refine dP rfl rfl (AbO 0 rfl rfl (by omega) rfl) ?_;refine dR 2 rfl ?_;refine dP rfl rfl (AE rfl rfl (by omega) rfl rfl) ?_
  refine dP rfl rfl (AbO 0 rfl rfl (by omega) rfl) ?_;refine dP rfl rfl (AE rfl rfl (by omega) rfl rfl) ?_
  refine dP rfl rfl (Agg 0 rfl rfl rfl (by omega) ⟨_,rfl⟩ rfl rfl) ?_;refine dP rfl rfl (AE rfl rfl (by omega) rfl rfl) ?_
  refine dP rfl rfl (Agg 0 rfl rfl rfl (by simp;omega) ⟨_,rfl⟩ rfl rfl) ?_;refine dN ?_;refine⟨rfl,?_⟩;refine tO ?_
  refine tR 1 rfl ?_;refine tP (oA (b:=1) rfl rfl (by omega)) rfl rfl rfl rfl ?_;refine tR 1 rfl ?_
  refine tP (AaH (b:=1) rfl rfl (by omega) (by omega)) rfl rfl rfl rfl ?_;refine tR 2 rfl (tN ?_)
  exact⟨t+1,by omega,by (repeat' (first | exact wN | refine wC rfl ?_)),by omega,by rw [←hs];rfl⟩
 ·have:rv L t=L.reverse:=rv_end L (by omega)
  rw [this]
  exact⟨.inl rfl,[],rfl,h⟩
theorem rev_tc0 {K:Zv→Ab→Prop} {S:Ab} {v:Zv} (hv:AccG S v []) (h:K (.tuple []) S) :
 TC APg (max Oca.nargs Oca.N) Oca.body (Awo 0 [v]) S fun ex m2 S2=>(ex = .normal∨ex = .ret)∧∃ vs,Abx m2 S2 Oca.res=some vs∧K (one vs) S2:=by
 rcases hv with⟨rfl,-⟩ | ⟨b,h1,-⟩
 ·refine tS (tO (tR 2 rfl ?_));refine tP (oB (v := .int .i64 (-1)) rfl rfl rfl) rfl rfl rfl rfl ?_
  refine tR 2 rfl (tN ?_)
  refine tB (lST (σ:=Unit) (fun _=>0) (fun _=>[(2,.int .i64 0),(3,.int .i64 (-1))]) (fun _ S'=>S'=S) () (by (repeat' (first | exact wN | refine wC rfl ?_))) rfl ?_)
  rintro _ S rfl
  refine tS (tS (tO (tR 3 rfl (tN ?_))))
  refine AI (t:=false) rfl (fun h=>nomatch h) (fun _=>?_);refine tX ?_
  exact⟨.inl rfl,[],rfl,h⟩
 ·have h1:v = .view b 0 0 false:=h1
  subst h1
  refine tS (tO (tR 2 rfl ?_));refine tP (oB (v := .int .i64 (-1)) rfl rfl rfl) rfl rfl rfl rfl ?_
  refine tR 2 rfl (tN ?_)
  refine tB (lST (σ:=Unit) (fun _=>0) (fun _=>[(2,.int .i64 0),(3,.int .i64 (-1))]) (fun _ S'=>S'=S) () (by (repeat' (first | exact wN | refine wC rfl ?_))) rfl ?_)
  rintro _ S rfl
  refine tS (tS (tO (tR 3 rfl (tN ?_))))
  refine AI (t:=false) rfl (fun h=>nomatch h) (fun _=>?_);refine tX ?_
  exact⟨.inl rfl,[],rfl,h⟩
end Go.Eng.Ga
namespace Go.Eng.Ga
open Go Go.Eng
variable [Inhabited GlobT]
theorem cnt_rev (E:List Nat):∀ l:List Nat,cnt E l.reverse=cnt E l
 | []=>rfl
 | x::l=>by
   rw [List.reverse_cons,cnt_swap,cnt_app,cnt_rev E l,←cnt_app];rfl
theorem cnt_turn (E A B:List Nat):cnt E (B++A).reverse=cnt E (A++B):=by rw [cnt_rev,cnt_swap]
def ahd (e:Nat) (l:List Nat):Nat:=l.countP fun x => !fN x && decide (fT x≤fT e)
theorem ahd_succ (e:Nat) {l:List Nat} {i:Nat} (h:i<l.length):ahd e (l.take (i+1))=ahd e (l.take i)+if (!fN (l.getD i 0) && decide (fT (l.getD i 0)≤fT e))=true then 1 else 0:=by
 rw [Alf h];unfold ahd;rw [List.countP_append,List.countP_singleton]
theorem ahd_le (e:Nat) (l:List Nat):ahd e l≤l.length:=List.countP_le_length
theorem cnt_one (e:Nat):∀ l:List Nat,∃n q,cnt [e] l=([ahd e l,q],n,ahd e l+q)∧n+(ahd e l+q)=l.length
 | []=>⟨0,0,rfl,rfl⟩
 | x::l=>by
   obtain⟨n,q,h1,h2⟩:=cnt_one e l
   have hx:cnt [e] [x]=stp [e] ([0,0],0,0) x:=rfl
   have hc:cnt [e] (x::l)=cnt [e] ([x]++l):=rfl
   have ha:ahd e (x::l)=ahd e l+if (!fN x && decide (fT x≤fT e))=true then 1 else 0:=by unfold ahd;rw [List.countP_cons]
   rw [hc,cnt_app,hx,h1,ha]
   unfold stp
   cases hn:fN x
   ·have hs:stepN [e] x=if fT x≤fT e then 0 else 1:=by
     unfold stepN
     by_cases hh:fT x≤fT e<;>simp [List.findIdx_cons,hh]
    rw [hs]
    by_cases hh:fT x≤fT e
    ·refine⟨n,q,?_,?_⟩
     ·simp [hh,addL,bump];omega
     ·simp [hh];omega
    ·refine⟨n,q+1,?_,?_⟩
     ·simp [hh,addL,bump];omega
     ·simp [hh];omega
   ·refine⟨n+1,q,?_,?_⟩
    ·simp [addL];omega
    ·simp;omega
theorem errN_one (e:Nat):errN [e]=if fN e=true then 21 else 0:=by
 unfold errN badE bad1
 simp
attribute [local irreducible] OpR TL TD TC TS Ak
theorem tl_concat {N:Nat} {d:Option Nat} {args:List Ag} {un:List Nat} {l:List Ae} {m:FM} {K:FM→Ab→Prop} {A B:List Nat} (ha:los m args=some [.lim [[.imm (en A)],[.imm (en B)]]]) (hl:A.length+B.length≤1000) (hd:(d.all fun d=>d<N)=true)
 (hk:∀ v x,AccG [x] v (en (A++B))→TL APg N l (putM m d v) [x] K):TL APg N (⟨d,.call (.c (.fn (.func Occ) [] [])) args,none,un⟩::l) m [] K:=by
 obtain⟨v,S1,hc,hacc⟩:=concat_ok A B hl
 have hn:norefL [Zv.lim [[Zv.imm (en A)],[Zv.imm (en B)]]]=true:=by simp [norefL,Zv.noref,Aab,Alt]
 rcases hacc with⟨rfl,h⟩ | ⟨j,rfl,h2⟩
 ·refine AyB (gr_keepn ha rfl rfl hn rfl hc rfl) hd rfl rfl rfl (hk _ none (.inl ⟨rfl,h⟩))
 ·refine AyB (o_keepv ha rfl rfl hn rfl hc h2 (Alt _)) hd rfl rfl rfl (hk _ _ (.inr ⟨0,rfl,rfl⟩))
theorem tl_rev {N:Nat} {d:Option Nat} {args:List Ag} {un:List Nat} {l:List Ae} {m:FM} {K:FM→Ab→Prop} {L:List Nat} {v:Zv} {x:Option ABlock} (ha:los m args=some [v]) (hacc:AccG [x] v (en L)) (hl:L.length≤1000) (hd:(d.all fun d=>d<N)=true)
 (hk:∀ x',AccG [x'] v (en L.reverse)→TL APg N l (putM m d (.tuple [])) [x'] K):TL APg N (⟨d,.call (.c (.fn (.func Ocd) [] [])) args,none,un⟩::l) m [x] K:=by
 by_cases h0:L=[]
 ·subst h0
  exact tl_share (af:=Oca) hd rfl ha rfl rfl rfl rfl rfl rfl rfl rfl (rev_tc0 (K:=fun v S2=>TL APg N l (putM m d v) S2 K) hacc (hk x hacc))
 ·rcases hacc with⟨rfl,h⟩ | ⟨b,rfl,h2⟩
  ·cases L<;>simp at h h0
  ·have hb:b=0:=by
    rcases b with _ | b
    ·rfl
    ·simp at h2
   subst hb
   have hx:x=some ⟨1,en L⟩:=by simpa using h2
   subst hx
   have hlen:(en L).length=L.length:=List.length_map _
   have R:=rev_tc (K:=fun v S2=>TL APg N l (putM m d v) S2 K) h0 hl (hk _ (.inr ⟨0,by rw [show (en L.reverse).length=(en L).length by simp],rfl⟩))
   rw [←hlen] at R
   exact tl_share (af:=Oca) hd rfl ha rfl rfl rfl rfl rfl rfl rfl rfl R
end Go.Eng.Ga
namespace Go.Eng.Ga
open Go Go.Eng
variable [Inhabited GlobT]
attribute [local irreducible] OpR TL TD TC TS Ak
theorem of_tc1 {x0:Option ABlock} {K:Zv→Ab→Prop} (E F l:List Nat) (code:Nat) (hl:l.length<4294967296) (hL:∀ x∈l,W64 x) (hF:OkE F) (hfl:F.length<4294967296)
 (hnew:Ak APg Adj [.imm (en E)] (.tuple [gv F [] 0 0 0 0,.int .i64 (code:Int)]))
 (h:∀ y z,K (.tuple [gvs F (gOf F l),.int .i64 (code:Int)]) [x0,y,z]) :
 TC APg (max ArQ.nargs ArQ.N) ArQ.body (Awo 0 [.imm (en E),.imm (en l)]) [x0] fun ex m2 S2=>(ex = .normal∨ex = .ret)∧∃ vs,Abx m2 S2 ArQ.res=some vs∧K (one vs) S2:=by
 have hll':(en l).length=l.length:=List.length_map _
 refine tS (tO ?_);refine AcP rfl rfl ?_;refine tR 1 rfl (tN (tS (tO ?_)))
 refine tR 1 rfl ?_
 refine tC rfl (by simp [Zv.closed,Aj,Ao,cLm,cLLm]) (hnew) (by simp [Zv.noref,Zv.flat,norefL,Aab,nLm,nLLm]) rfl rfl rfl rfl rfl ?_
 refine tR 3 rfl ?_;refine AcP rfl rfl ?_
 refine tP (AdT rfl rfl rfl rfl rfl rfl rfl (Nat.le_of_ble_eq_true rfl) rfl) rfl rfl rfl rfl ?_;refine tR 1 rfl (tN ?_)
 refine tS (tS (tO (tR 3 rfl (tN ?_))))
 refine tB (lST (σ:=Nat) (fun i=>l.length - i) (fun i=>[(4,.ptr 1 0 0),(6,.ptr 2 0 0),(7,.int .i64 (code:Int)),(15,.imm (en l)),(16,.int .i64 ((en l).length:Int)),(17,.int .i64 (i:Int))])
  (fun i S=>i≤l.length∧S=[x0,some ⟨6,[[.nils,.nils,.int .u64 0,.int .u64 0,.flt .f64 0,.flt .f64 0]]⟩,some ⟨6,[gc F (gOf F (l.take i)).C (gOf F (l.take i)).n (gOf F (l.take i)).a (gOf F (l.take i)).lo (gOf F (l.take i)).hi]⟩]) 0 (by (repeat' (first | exact wN | refine wC rfl ?_))) ⟨by omega,rfl⟩ ?_)
 rintro i S ⟨hi,rfl⟩
 refine tS (tO (tR 1 rfl (tN (tS ?_))))
 refine tQ rfl decide_eq_true_iff (fun c=>tK ?_) (fun c=>tX ?_)
 ·have hi':i<l.length:=by omega
  have hk:=AkQ F (l.take i)
  rw [List.length_take_of_le hi] at hk
  have ha:=addS_call F (gOf F (l.take i)) (OkG.of hF hfl (gOf_ok F (AoR hL i)) hk (by omega)) (l.getD i 0) (AdR hL i)
  have hs:=Aqs F hi'
  generalize gOf F (l.take i)=s at *
  refine tS ?_;refine tB ?_;refine tS (tO ?_)
  refine tP (Bl rfl rfl (AQ (d:=0) (by omega)) rfl) rfl rfl rfl rfl ?_;refine tR 2 rfl (tN (tO ?_))
  refine tR 2 rfl ?_
  refine tC rfl (by simp [Zv.closed,Aj,Ao,cLm,cLLm]) (ha) (by simp [Zv.noref,Zv.flat,norefL,Aab,nLm,nLLm]) rfl rfl rfl rfl rfl ?_
  refine tP (AdT rfl rfl rfl rfl rfl rfl rfl (Nat.le_of_ble_eq_true rfl) rfl) rfl rfl rfl rfl ?_;refine tN (tO ?_)
  refine tP (oA (b:=1) rfl rfl (by omega)) rfl rfl rfl rfl ?_;refine tR 1 rfl (tN ?_)
  refine⟨i+1,by omega,by (repeat' (first | exact wN | refine wC rfl ?_)),by omega,by rw [hs];rfl⟩
 ·have:i=l.length:=by omega
  subst this
  rw [List.take_length]
  refine tS (tO (tR 2 rfl ?_))
  refine tP (AdT rfl rfl rfl rfl rfl rfl rfl (Nat.le_of_ble_eq_true rfl) rfl) rfl rfl rfl rfl ?_;refine tR 1 rfl (tN ?_)
  exact tT ⟨.inr rfl,_,rfl,h _ _⟩
theorem of_tc2 {x1 x2 x3:Option ABlock} {K:Zv→Ab→Prop} (E F l:List Nat) (code:Nat) (hl:l.length<4294967296) (hL:∀ x∈l,W64 x) (hF:OkE F) (hfl:F.length<4294967296)
 (hnew:Ak APg Adj [.imm (en E)] (.tuple [gv F [] 0 0 0 0,.int .i64 (code:Int)]))
 (h:∀ y z,K (.tuple [gvs F (gOf F l),.int .i64 (code:Int)]) [some ⟨1,en l⟩,x1,x2,x3,y,z]) :
 TC APg (max ArQ.nargs ArQ.N) ArQ.body (Awo 0 [.imm (en E),.view 0 0 l.length false]) [some ⟨1,en l⟩,x1,x2,x3] fun ex m2 S2=>(ex = .normal∨ex = .ret)∧∃ vs,Abx m2 S2 ArQ.res=some vs∧K (one vs) S2:=by
 have hll':(en l).length=l.length:=List.length_map _
 refine tS (tO ?_);refine AcP rfl rfl ?_;refine tR 1 rfl (tN (tS (tO ?_)))
 refine tR 1 rfl ?_
 refine tC rfl (by simp [Zv.closed,Aj,Ao,cLm,cLLm]) (hnew) (by simp [Zv.noref,Zv.flat,norefL,Aab,nLm,nLLm]) rfl rfl rfl rfl rfl ?_
 refine tR 3 rfl ?_;refine AcP rfl rfl ?_
 refine tP (AdT rfl rfl rfl rfl rfl rfl rfl (Nat.le_of_ble_eq_true rfl) rfl) rfl rfl rfl rfl ?_;refine tR 1 rfl (tN ?_)
 refine tS (tS (tO (tR 3 rfl (tN ?_))))
 refine tB (lST (σ:=Nat) (fun i=>l.length - i) (fun i=>[(4,.ptr 4 0 0),(6,.ptr 5 0 0),(7,.int .i64 (code:Int)),(15,.view 0 0 l.length false),(16,.int .i64 (l.length:Int)),(17,.int .i64 (i:Int))])
  (fun i S=>i≤l.length∧S=[some ⟨1,en l⟩,x1,x2,x3,some ⟨6,[[.nils,.nils,.int .u64 0,.int .u64 0,.flt .f64 0,.flt .f64 0]]⟩,some ⟨6,[gc F (gOf F (l.take i)).C (gOf F (l.take i)).n (gOf F (l.take i)).a (gOf F (l.take i)).lo (gOf F (l.take i)).hi]⟩]) 0 (by (repeat' (first | exact wN | refine wC rfl ?_))) ⟨by omega,rfl⟩ ?_)
 rintro i S ⟨hi,rfl⟩
 refine tS (tO (tR 1 rfl (tN (tS ?_))))
 refine tQ rfl decide_eq_true_iff (fun c=>tK ?_) (fun c=>tX ?_)
 ·have hi':i<l.length:=by omega
  have hk:=AkQ F (l.take i)
  rw [List.length_take_of_le hi] at hk
  have ha:=addS_call F (gOf F (l.take i)) (OkG.of hF hfl (gOf_ok F (AoR hL i)) hk (by omega)) (l.getD i 0) (AdR hL i)
  have hs:=Aqs F hi'
  generalize gOf F (l.take i)=s at *
  refine tS ?_;refine tB ?_;refine tS (tO ?_);refine tP (AE rfl rfl (by omega) rfl rfl) rfl rfl rfl rfl ?_
  refine tP (AbO 0 rfl rfl (by omega) rfl) rfl rfl rfl rfl ?_;refine tR 1 rfl (tN (tO (tR 2 rfl ?_)))
  refine tC rfl (by simp [Zv.closed,Aj,Ao,cLm,cLLm]) (ha) (by simp [Zv.noref,Zv.flat,norefL,Aab,nLm,nLLm]) rfl rfl rfl rfl rfl ?_
  refine tP (AdT rfl rfl rfl rfl rfl rfl rfl (Nat.le_of_ble_eq_true rfl) rfl) rfl rfl rfl rfl ?_;refine tN (tO ?_)
  refine tP (oA (b:=1) rfl rfl (by omega)) rfl rfl rfl rfl ?_;refine tR 1 rfl (tN ?_)
  refine⟨i+1,by omega,by (repeat' (first | exact wN | refine wC rfl ?_)),by omega,by rw [hs];rfl⟩
 ·have:i=l.length:=by omega
  subst this
  rw [List.take_length]
  refine tS (tO (tR 2 rfl ?_))
  refine tP (AdT rfl rfl rfl rfl rfl rfl rfl (Nat.le_of_ble_eq_true rfl) rfl) rfl rfl rfl rfl ?_;refine tR 1 rfl (tN ?_)
  exact tT ⟨.inr rfl,_,rfl,h _ _⟩
theorem of_tc3 {x0 x1 x2 x3 x4 x5 x6:Option ABlock} {K:Zv→Ab→Prop} (e:Nat) (F l:List Nat) (code:Nat) (hl:l.length<4294967296) (hL:∀ x∈l,W64 x) (hF:OkE F) (hfl:F.length<4294967296)
 (hnew:Ak APg Adj [.imm [[fl e]]] (.tuple [gv F [] 0 0 0 0,.int .i64 (code:Int)]))
 (h:∀ y z,K (.tuple [gvs F (gOf F l),.int .i64 (code:Int)]) [x0,x1,x2,x3,x4,x5,x6,y,z]) :
 TC APg (max ArQ.nargs ArQ.N) ArQ.body (Awo 0 [.lim [[fl e]],.imm (en l)]) [x0,x1,x2,x3,x4,x5,x6] fun ex m2 S2=>(ex = .normal∨ex = .ret)∧∃ vs,Abx m2 S2 ArQ.res=some vs∧K (one vs) S2:=by
 have hll':(en l).length=l.length:=List.length_map _
 refine tS (tO ?_);refine AcP rfl rfl ?_;refine tR 1 rfl (tN (tS (tO ?_)))
 refine tR 1 rfl ?_
 refine AhQ rfl (Bv (v := .lim [[fl e]]) (v' := .imm [[fl e]]) (fun n=>⟨_,rfl⟩) AiA) hnew rfl rfl rfl rfl rfl rfl ?_
 refine tR 3 rfl ?_;refine AcP rfl rfl ?_
 refine tP (AdT rfl rfl rfl rfl rfl rfl rfl (Nat.le_of_ble_eq_true rfl) rfl) rfl rfl rfl rfl ?_;refine tR 1 rfl (tN ?_)
 refine tS (tS (tO (tR 3 rfl (tN ?_))))
 refine tB (lST (σ:=Nat) (fun i=>l.length - i) (fun i=>[(4,.ptr 7 0 0),(6,.ptr 8 0 0),(7,.int .i64 (code:Int)),(15,.imm (en l)),(16,.int .i64 ((en l).length:Int)),(17,.int .i64 (i:Int))])
  (fun i S=>i≤l.length∧S=[x0,x1,x2,x3,x4,x5,x6,some ⟨6,[[.nils,.nils,.int .u64 0,.int .u64 0,.flt .f64 0,.flt .f64 0]]⟩,some ⟨6,[gc F (gOf F (l.take i)).C (gOf F (l.take i)).n (gOf F (l.take i)).a (gOf F (l.take i)).lo (gOf F (l.take i)).hi]⟩]) 0 (by (repeat' (first | exact wN | refine wC rfl ?_))) ⟨by omega,rfl⟩ ?_)
 rintro i S ⟨hi,rfl⟩
 refine tS (tO (tR 1 rfl (tN (tS ?_))))
 refine tQ rfl decide_eq_true_iff (fun c=>tK ?_) (fun c=>tX ?_)
 ·have hi':i<l.length:=by omega
  have hk:=AkQ F (l.take i)
  rw [List.length_take_of_le hi] at hk
  have ha:=addS_call F (gOf F (l.take i)) (OkG.of hF hfl (gOf_ok F (AoR hL i)) hk (by omega)) (l.getD i 0) (AdR hL i)
  have hs:=Aqs F hi'
  generalize gOf F (l.take i)=s at *
  refine tS ?_;refine tB ?_;refine tS (tO ?_)
  refine tP (Bl rfl rfl (AQ (d:=0) (by omega)) rfl) rfl rfl rfl rfl ?_;refine tR 2 rfl (tN (tO ?_))
  refine tR 2 rfl ?_
  refine tC rfl (by simp [Zv.closed,Aj,Ao,cLm,cLLm]) (ha) (by simp [Zv.noref,Zv.flat,norefL,Aab,nLm,nLLm]) rfl rfl rfl rfl rfl ?_
  refine tP (AdT rfl rfl rfl rfl rfl rfl rfl (Nat.le_of_ble_eq_true rfl) rfl) rfl rfl rfl rfl ?_;refine tN (tO ?_)
  refine tP (oA (b:=1) rfl rfl (by omega)) rfl rfl rfl rfl ?_;refine tR 1 rfl (tN ?_)
  refine⟨i+1,by omega,by (repeat' (first | exact wN | refine wC rfl ?_)),by omega,by rw [hs];rfl⟩
 ·have:i=l.length:=by omega
  subst this
  rw [List.take_length]
  refine tS (tO (tR 2 rfl ?_))
  refine tP (AdT rfl rfl rfl rfl rfl rfl rfl (Nat.le_of_ble_eq_true rfl) rfl) rfl rfl rfl rfl ?_;refine tR 1 rfl (tN ?_)
  exact tT ⟨.inr rfl,_,rfl,h _ _⟩
theorem of_tc0 {x0 x1 x2 x3:Option ABlock} {K:Zv→Ab→Prop} (E F:List Nat) (code:Nat)
 (hnew:Ak APg Adj [.imm (en E)] (.tuple [gv F [] 0 0 0 0,.int .i64 (code:Int)]))
 (h:∀ y z,K (.tuple [gvs F (gOf F []),.int .i64 (code:Int)]) [x0,x1,x2,x3,y,z]) :
 TC APg (max ArQ.nargs ArQ.N) ArQ.body (Awo 0 [.imm (en E),.nils]) [x0,x1,x2,x3] fun ex m2 S2=>(ex = .normal∨ex = .ret)∧∃ vs,Abx m2 S2 ArQ.res=some vs∧K (one vs) S2:=by
 refine tS (tO ?_);refine AcP rfl rfl ?_;refine tR 1 rfl (tN (tS (tO ?_)))
 refine tR 1 rfl ?_
 refine tC rfl (by simp [Zv.closed,Aj,Ao,cLm,cLLm]) (hnew) (by simp [Zv.noref,Zv.flat,norefL,Aab,nLm,nLLm]) rfl rfl rfl rfl rfl ?_
 refine tR 3 rfl ?_;refine AcP rfl rfl ?_
 refine tP (AdT rfl rfl rfl rfl rfl rfl rfl (Nat.le_of_ble_eq_true rfl) rfl) rfl rfl rfl rfl ?_;refine tR 1 rfl (tN ?_)
 refine tS (tS (tO (tR 3 rfl (tN ?_))))
 refine tB (lST (σ:=Unit) (fun _=>0) (fun _=>[(4,.ptr 4 0 0),(6,.ptr 5 0 0),(7,.int .i64 (code:Int)),(16,.int .i64 0),(17,.int .i64 0)])
  (fun _ S=>S=[x0,x1,x2,x3,some ⟨6,[[.nils,.nils,.int .u64 0,.int .u64 0,.flt .f64 0,.flt .f64 0]]⟩,some ⟨6,[gc F (gOf F []).C (gOf F []).n (gOf F []).a (gOf F []).lo (gOf F []).hi]⟩]) () (by (repeat' (first | exact wN | refine wC rfl ?_))) rfl ?_)
 rintro _ S rfl
 refine tS (tO (tR 1 rfl (tN (tS ?_))))
 refine AI (t:=false) rfl (fun h=>nomatch h) (fun _=>?_);refine tX ?_;refine tS (tO (tR 2 rfl ?_))
 refine tP (AdT rfl rfl rfl rfl rfl rfl rfl (Nat.le_of_ble_eq_true rfl) rfl) rfl rfl rfl rfl ?_;refine tR 1 rfl (tN ?_)
 exact tT ⟨.inr rfl,_,rfl,h _ _⟩
theorem of_tc2' {x0 x1 x2 x3:Option ABlock} {v:Zv} {K:Zv→Ab→Prop} (E F l:List Nat) (hacc:AccG [x0] v (en l)) (code:Nat) (hl:l.length<4294967296) (hL:∀ x∈l,W64 x) (hF:OkE F) (hfl:F.length<4294967296)
 (hnew:Ak APg Adj [.imm (en E)] (.tuple [gv F [] 0 0 0 0,.int .i64 (code:Int)]))
 (h:∀ y z,K (.tuple [gvs F (gOf F l),.int .i64 (code:Int)]) [x0,x1,x2,x3,y,z]) :
 TC APg (max ArQ.nargs ArQ.N) ArQ.body (Awo 0 [.imm (en E),v]) [x0,x1,x2,x3] fun ex m2 S2=>(ex = .normal∨ex = .ret)∧∃ vs,Abx m2 S2 ArQ.res=some vs∧K (one vs) S2:=by
 rcases hacc with⟨rfl,h0⟩ | ⟨b,rfl,h2⟩
 ·cases l with
  | nil=>exact of_tc0 E F code hnew h
  | cons=>simp at h0
 ·have hb:b=0:=by
   rcases b with _ | b
   ·rfl
   ·simp at h2
  subst hb
  have hx:x0=some ⟨1,en l⟩:=by simpa using h2
  subst hx
  have R:=of_tc2 (K:=K) E F l code hl hL hF hfl hnew h
  rw [show (en l).length=l.length from List.length_map _]
  exact R
end Go.Eng.Ga
namespace Go.Eng.Ga
open Go Go.Eng
variable [Inhabited GlobT]
attribute [local irreducible] OpR TL TD TC TS Ak
theorem eqself' {w:Nat} (hw:W64 w):(FloatKind.f64.format.order w w == some .eq) = !fN w:=by
 rw [←Apl hw];unfold bne;rw [Bool.not_not]
theorem gs_len {E:List Nat} {s:GS} {c:List Nat × Nat × Nat} (h:GsOk E s c):s.C.length≤E.length+1:=by
 rcases h.len with h | h
 ·rw [h];exact Nat.zero_le _
 ·omega
theorem span_same (E:List Nat) {l W:List Nat} (hL:∀ x∈l,W64 x) (hW:∀ x∈W,W64 x) (hc:cnt E W=cnt E l) (hm:∀ x,x∈l↔x∈W) :
 ∃ p q v w,spanV (gOf E l).a (gOf E l).lo (gOf E l).hi=[fl p,fl q]∧spanV (gOf E W).a (gOf E W).lo (gOf E W).hi=[fl v,fl w]∧W64 p∧W64 q∧W64 v∧W64 w∧sameF p v=true∧sameF q w=true:=by
 have g1:=gOf_ok E hL
 have g2:=gOf_ok E hW
 rw [hc] at g2
 have ha:(gOf E W).a=(gOf E l).a:=g2.c3.trans g1.c3.symm
 unfold spanV
 by_cases h0:(gOf E l).a=0
 ·rw [if_pos h0,if_pos (by omega)]
  exact⟨_,_,_,_,rfl,rfl,by decide,by decide,by decide,by decide,Ajj _,Ajj _⟩
 ·rw [if_neg h0,if_neg (by omega)]
  obtain⟨m1,m2⟩:=(gOf_spec E l).1 h0
  obtain⟨m3,m4⟩:=(gOf_spec E W).1 (by omega)
  exact⟨_,_,_,_,rfl,rfl,g1.ol,g1.oh,g2.ol,g2.oh,(m1.of hm).same m3,(m2.of hm).same m4⟩
theorem orders_law (E l:List Nat) (at_ e:Nat) (hE:∀ x∈E,W64 x) (hL:∀ x∈l,W64 x) (hat:at_<256) (hew:W64 e):Ak APg Och [.imm (en E),.imm (en l),.int .u8 (at_:Int),fl e] (.bool true):=by
 have hle:(en E).length=E.length:=List.length_map _
 have hll':(en l).length=l.length:=List.length_map _
 refine Al (af:=Ocg) rfl rfl ?_
 refine tS (tO (tR 1 rfl (tN (tS (tS (tO ?_))))))
 refine tR 2 rfl (tN ?_);refine AI (t:=false) rfl (fun h=>nomatch h) (fun _=>?_);refine tK (tS ?_)
 refine tS (tO (tR 4 rfl ?_))
 by_cases c1:20<E.length
 ·rw [show decide (((en E).length:Int)>20)=true from decide_eq_true (by omega)]
  refine tR 9 rfl (tN ?_);refine AI (t:=true) rfl (fun _=>?_) (fun h=>nomatch h);refine tS (tO ?_)
  refine tR 1 rfl (tN ?_);exact tT (AS rfl ⟨_,fzO rfl⟩)
 rw [show decide (((en E).length:Int)>20)=false from decide_eq_false (by omega)]
 refine tR 5 rfl ?_
 by_cases c3:100<l.length
 ·rw [show decide (((en l).length:Int)>100)=true from decide_eq_true (by omega)]
  refine tR 4 rfl (tN ?_);refine AI (t:=true) rfl (fun _=>?_) (fun h=>nomatch h);refine tS (tO ?_)
  refine tR 1 rfl (tN ?_);exact tT (AS rfl ⟨_,fzO rfl⟩)
 rw [show decide (((en l).length:Int)>100)=false from decide_eq_false (by omega)]
 have hrE:=rNew_ok E hE (by omega)
 refine tR 1 rfl ?_
 refine tC rfl (by simp [Zv.closed,Aj,Ao,cLm,cLLm]) (hrE) (by simp [Zv.noref,Zv.flat,norefL,Aab,nLm,nLLm]) rfl rfl rfl rfl rfl ?_
 refine tR 2 rfl (tN ?_)
 by_cases he:errN E=0
 rotate_left
 ·rw [show ((errN E:Int) != 0)=true from by simp;omega]
  refine AI (t:=true) rfl (fun _=>?_) (fun h=>nomatch h);refine tS (tO (tR 1 rfl (tN ?_)))
  exact tT (AS rfl ⟨_,fzO rfl⟩)
 rw [show ((errN E:Int) != 0)=false from by rw [he];rfl]
 refine AI (t:=false) rfl (fun h=>nomatch h) (fun _=>?_);refine tK (tS (tO (tR 1 rfl ?_)))
 refine tP (Afv rfl (AcV (by omega))) rfl rfl rfl rfl ?_;refine tR 2 rfl ?_
 refine tP (oA (b:=1) rfl rfl (by omega)) rfl rfl rfl rfl ?_;refine tP (Abh rfl rfl (by omega)) rfl rfl rfl rfl ?_
 refine tR 1 rfl (tN (tS ?_));refine AfW ?_;refine AV rfl ?_;refine dR 2 rfl ?_
 obtain⟨hokE,helE⟩:=errN_ok hE he
 have hnE:=nNew_ok E hE (by omega) he
 rw [hll']
 have hk:at_%(l.length+1)≤l.length:=Nat.le_of_lt_succ (Nat.mod_lt _ (Nat.succ_pos _))
 generalize at_%(l.length+1)=k at hk ⊢
 have htd:l.take k++l.drop k=l:=List.take_append_drop k l
 have hlt:(l.drop k).length+(l.take k).length=l.length:=by rw [List.length_drop,List.length_take];omega
 have u1:∀ {m:FM} {slot:Nat} {S:Ab} {x a:Ag},lo m x=some (.imm (en l))→lo m a=some (.int .i64 (k:Int))→OpR APg m slot S (.slice 1 x none (some a) none) (.imm (en (l.take k))) S ([],[]):=fun h h'=>o_upto h h' hk
 have u2:∀ {m:FM} {slot:Nat} {S:Ab} {x a:Ag},lo m x=some (.imm (en l))→lo m a=some (.int .i64 (k:Int))→OpR APg m slot S (.slice 1 x (some a) none none) (.imm (en (l.drop k))) S ([],[]):=fun h h'=>o_from h h' hk
 have hct:=fun F=>cnt_turn F (l.take k) (l.drop k)
 rw [htd] at hct
 have hmem:∀ x,x∈l↔x∈(l.drop k++l.take k).reverse:=fun x=>by rw [List.mem_reverse,List.mem_append,or_comm,←List.mem_append,htd]
 have hWl:(l.drop k++l.take k).reverse.length=l.length:=by rw [List.length_reverse,List.length_append,hlt]
 generalize l.take k=A at *
 generalize l.drop k=B at *
 refine dP rfl rfl (u2 rfl rfl) ?_
 refine dR 2 rfl ?_
 refine dP rfl rfl (u1 rfl rfl) ?_
 refine dN ?_;refine⟨rfl,?_⟩;refine Am ?_;refine tP (AZ rfl rfl rfl) rfl rfl rfl rfl ?_;refine tN ?_;refine Am ?_
 refine tl_concat rfl (by omega) rfl ?_
 intro v x hacc
 refine tN ?_;refine Am ?_;refine tP (Br rfl) rfl rfl rfl rfl ?_;refine tN ?_;refine Aos ?_;refine tS ?_
 refine tO ?_;refine tP (Br rfl) rfl rfl rfl rfl ?_
 refine tl_rev rfl hacc (by rw [List.length_append];omega) rfl ?_
 clear hacc x
 intro x hacc
 have hWw:∀ x∈(B++A).reverse,W64 x:=fun x hx=>hL x ((hmem x).2 hx)
 generalize (B++A).reverse=W at *
 clear u1 u2 htd hlt
 obtain⟨p,q,v',w,s1,s2,w1,w2,w3,w4,q1,q2⟩:=span_same E hL hWw (hct E) hmem
 have sp1:=span_ok E (gOf E l).C (gOf E l).n (gOf E l).a (gOf E l).lo (gOf E l).hi
 have sp2:=span_ok E (gOf E W).C (gOf E W).n (gOf E W).a (gOf E W).lo (gOf E W).hi
 rw [s1] at sp1
 rw [s2] at sp2
 have g1:=gOf_ok E hL
 have g2:=gOf_ok E hWw
 rw [hct E] at g2
 have cs1:=counts_ok E (gOf E l).C (gOf E l).n (gOf E l).a (gOf E l).lo (gOf E l).hi (by omega) (gs_len g1)
 have cs2:=counts_ok E (gOf E W).C (gOf E W).n (gOf E W).a (gOf E W).lo (gOf E W).hi (by omega) (gs_len g2)
 rw [g1.c1] at cs1
 rw [g2.c1] at cs2
 have ns1:=none_ok E (gOf E l).C (gOf E l).n (gOf E l).a (gOf E l).lo (gOf E l).hi
 have ns2:=none_ok E (gOf E W).C (gOf E W).n (gOf E W).a (gOf E W).lo (gOf E W).hi
 have ts1:=total_ok E (gOf E l).C (gOf E l).n (gOf E l).a (gOf E l).lo (gOf E l).hi
 have ts2:=total_ok E (gOf E W).C (gOf E W).n (gOf E W).a (gOf E W).lo (gOf E W).hi
 have en1:(gOf E W).n=(gOf E l).n:=g2.c2.trans g1.c2.symm
 have ea1:(gOf E W).a=(gOf E l).a:=g2.c3.trans g1.c3.symm
 have hk1:=AkQ E l
 have sm1:=Aji p v' w1 w3
 have sm2:=Aji q w w2 w4
 rw [q1] at sm1
 rw [q2] at sm2
 have eq1:=equalU_ok (cnt E l).1 (by rw [hk1.len];omega)
 clear g1 g2 s1 s2 hk1 w1 w2 w3 w4 q1 q2
 refine tN (tS (tO (tR 2 rfl ?_)))
 refine tl_share (af:=ArQ) rfl rfl rfl rfl rfl rfl rfl rfl rfl rfl rfl (of_tc1 (K:=fun v S2=>TL APg _ _ (putM _ _ v) S2 _) E E l 0 (by omega) hL hokE (by omega) hnE ?_)
 intro y1 z1
 generalize gOf E l=t1 at *
 obtain⟨C1,n1,a1,lo1,hi1⟩:=t1
 refine tR 3 rfl ?_;refine AcP rfl rfl ?_
 refine tP (AdT rfl rfl rfl rfl rfl rfl rfl (Nat.le_of_ble_eq_true rfl) rfl) rfl rfl rfl rfl ?_;refine tR 1 rfl (tN ?_)
 refine tS (tO (tR 1 rfl ?_));refine tP (Br rfl) rfl rfl rfl rfl ?_
 refine tl_share (af:=ArQ) rfl rfl rfl rfl rfl rfl rfl rfl rfl rfl rfl (of_tc2' (K:=fun v S2=>TL APg _ _ (putM _ _ v) S2 _) E E W hacc 0 (by omega) hWw hokE (by omega) hnE ?_)
 intro y2 z2
 generalize gOf E W=t2 at *
 obtain⟨C2,n2,a2,lo2,hi2⟩:=t2
 dsimp only at sp1 sp2 cs1 cs2 ns1 ns2 ts1 ts2 en1 ea1
 generalize (cnt E l).1=C0 at *
 subst en1 ea1
 refine tR 3 rfl ?_;refine AcP rfl rfl ?_
 refine tP (AdT rfl rfl rfl rfl rfl rfl rfl (Nat.le_of_ble_eq_true rfl) rfl) rfl rfl rfl rfl ?_;refine tR 1 rfl (tN ?_)
 refine tS (tO (tR 1 rfl ?_))
 refine tC rfl (by simp [Zv.closed,Aj,Ao,cLm,cLLm]) (sp1) (by simp [Zv.noref,Zv.flat,norefL,Aab,nLm,nLLm]) rfl rfl rfl rfl rfl ?_
 refine tR 5 rfl (tN (tS (tO (tR 1 rfl ?_))))
 refine tC rfl (by simp [Zv.closed,Aj,Ao,cLm,cLLm]) (sp2) (by simp [Zv.noref,Zv.flat,norefL,Aab,nLm,nLLm]) rfl rfl rfl rfl rfl ?_
 refine tR 5 rfl (tN (tS (tS ?_)));refine AfW ?_;refine AV rfl ?_;refine dR 1 rfl ?_
 refine AF rfl (by simp [Zv.closed,Aj,Ao,cLm,cLLm]) (cs1) (by simp [Zv.noref,Zv.flat,norefL,Aab,nLm,nLLm]) rfl rfl rfl rfl ?_
 refine dR 1 rfl (dN ?_);refine⟨rfl,?_⟩;refine Am ?_
 refine tC rfl (by simp [Zv.closed,Aj,Ao,cLm,cLLm]) (cs2) (by simp [Zv.noref,Zv.flat,norefL,Aab,nLm,nLLm]) rfl rfl rfl rfl rfl ?_
 refine tN ?_;refine Am ?_
 refine tC rfl (by simp [Zv.closed,Aj,Ao,cLm,cLLm]) (eq1) (by simp [Zv.noref,Zv.flat,norefL,Aab,nLm,nLLm]) rfl rfl rfl rfl rfl ?_
 refine tN ?_;refine Am ?_;refine tR 1 rfl (tN ?_);refine Am ?_;refine tR 1 rfl (tN ?_)
 refine AV rfl ?_;refine dR 1 rfl ?_
 refine AF rfl (by simp [Zv.closed,Aj,Ao,cLm,cLLm]) (ns1) (by simp [Zv.noref,Zv.flat,norefL,Aab,nLm,nLLm]) rfl rfl rfl rfl ?_
 refine dR 1 rfl (dN ?_);refine⟨rfl,?_⟩;refine Am ?_
 refine tC rfl (by simp [Zv.closed,Aj,Ao,cLm,cLLm]) (ns2) (by simp [Zv.noref,Zv.flat,norefL,Aab,nLm,nLLm]) rfl rfl rfl rfl rfl ?_
 refine tN ?_;refine Am ?_;refine tR 1 rfl (tN ?_);refine Am ?_;refine tR 1 rfl (tN ?_)
 refine Am ?_;refine tR 1 rfl (tN ?_);refine AV rfl ?_
 rw [show ((n2:Int) != (n2:Int))=false from bne_self_eq_false _]
 refine dR 1 rfl ?_
 refine AF rfl (by simp [Zv.closed,Aj,Ao,cLm,cLLm]) (ts1) (by simp [Zv.noref,Zv.flat,norefL,Aab,nLm,nLLm]) rfl rfl rfl rfl ?_
 refine dR 1 rfl (dN ?_);refine⟨rfl,?_⟩;refine Am ?_
 refine tC rfl (by simp [Zv.closed,Aj,Ao,cLm,cLLm]) (ts2) (by simp [Zv.noref,Zv.flat,norefL,Aab,nLm,nLLm]) rfl rfl rfl rfl rfl ?_
 refine tN ?_;refine Am ?_;refine tR 1 rfl (tN ?_);refine Am ?_;refine tR 1 rfl (tN ?_)
 refine Am ?_;refine tR 1 rfl (tN ?_);refine AV rfl ?_
 rw [show ((a2:Int) != (a2:Int))=false from bne_self_eq_false _]
 refine dR 2 rfl (dN ?_);refine⟨rfl,?_⟩;refine Am ?_;refine tC rfl rfl (sm1) rfl rfl rfl rfl rfl rfl ?_;refine tN ?_
 refine Am ?_;refine tR 1 rfl (tN ?_);refine Am ?_;refine tR 1 rfl (tN ?_);refine Am ?_
 refine tR 1 rfl (tN ?_);refine AV rfl ?_;refine dR 2 rfl (dN ?_);refine⟨rfl,?_⟩;refine Am ?_
 refine tC rfl rfl (sm2) rfl rfl rfl rfl rfl rfl ?_;refine tN ?_;refine Am ?_;refine tR 1 rfl (tN ?_);refine Am ?_
 refine tR 1 rfl (tN ?_);refine Aos ?_;refine AI (t:=false) rfl (fun h=>nomatch h) (fun _=>?_);refine tK ?_
 refine tS (tO (tR 1 rfl ?_));refine tP (AZ rfl rfl rfl) rfl rfl rfl rfl ?_;refine tR 1 rfl ?_
 clear sp1 sp2 cs1 cs2 ns1 ns2 ts1 ts2 sm1 sm2 eq1 hacc hmem hct hWl hWw hrE hnE
 have hE1:∀ x∈[e],W64 x:=fun x hx=>by rw [List.mem_singleton.1 hx];exact hew
 have hne:=Apl hew
 have her:=errN_one e
 cases hn:fN e
 rotate_left
 ·rw [hn] at her hne
  have hnb:=nNew_bad [e] hE1 (by simp) (by rw [her];decide)
  rw [her] at hnb
  refine tl_share (af:=ArQ) rfl rfl rfl rfl rfl rfl rfl rfl rfl rfl rfl (of_tc3 (K:=fun v S2=>TL APg _ _ (putM _ _ v) S2 _) e [] l 21 (by omega) hL ⟨fun x hx=>(by cases hx),fun x hx=>(by cases hx),fun i j _ hj=>absurd hj (Nat.not_lt_zero _)⟩ (by decide) hnb ?_)
  intro y3 z3
  generalize gOf [] l=t3
  obtain⟨C3,n3,a3,lo3,hi3⟩:=t3
  refine tR 3 rfl ?_;refine AcP rfl rfl ?_
  refine tP (AdT rfl rfl rfl rfl rfl rfl rfl (Nat.le_of_ble_eq_true rfl) rfl) rfl rfl rfl rfl ?_;refine tR 1 rfl (tN ?_)
  refine tS (tS (tO (tR 3 rfl (tN ?_))))
  rw [hne]
  refine AI (t:=true) rfl (fun _=>?_) (fun h=>nomatch h);refine tS (tO (tR 3 rfl (tN ?_)))
  exact tT (AS rfl ⟨_,fzO rfl⟩)
 rw [hn] at her hne
 have hnk:=nNew_ok [e] hE1 (by simp) her
 have hok1:=(errN_ok hE1 her).1
 obtain⟨n,cq,hc1,hc2⟩:=cnt_one e l
 have g3:=gOf_ok [e] hL
 have hlen:=gs_len g3
 rw [hc1] at g3
 have cs:=counts_ok [e] (gOf [e] l).C (gOf [e] l).n (gOf [e] l).a (gOf [e] l).lo (gOf [e] l).hi (by simp) hlen
 have ns:=none_ok [e] (gOf [e] l).C (gOf [e] l).n (gOf [e] l).a (gOf [e] l).lo (gOf [e] l).hi
 have ts:=total_ok [e] (gOf [e] l).C (gOf [e] l).n (gOf [e] l).a (gOf [e] l).lo (gOf [e] l).hi
 have e1:(gOf [e] l).n=n:=g3.c2
 have e2:(gOf [e] l).a=ahd e l+cq:=g3.c3
 rw [g3.c1] at cs
 clear g3 hlen hc1
 refine tl_share (af:=ArQ) rfl rfl rfl rfl rfl rfl rfl rfl rfl rfl rfl (of_tc3 (K:=fun v S2=>TL APg _ _ (putM _ _ v) S2 _) e [e] l 0 (by omega) hL hok1 (by simp) hnk ?_)
 intro y3 z3
 generalize gOf [e] l=t3 at *
 obtain⟨C3,n3,a3,lo3,hi3⟩:=t3
 dsimp only at cs ns ts e1 e2
 subst e1 e2
 refine tR 3 rfl ?_;refine AcP rfl rfl ?_
 refine tP (AdT rfl rfl rfl rfl rfl rfl rfl (Nat.le_of_ble_eq_true rfl) rfl) rfl rfl rfl rfl ?_;refine tR 1 rfl (tN ?_)
 refine tS (tS (tO (tR 3 rfl (tN ?_))))
 rw [hne]
 refine AI (t:=false) rfl (fun h=>nomatch h) (fun _=>?_);refine tK (tS (tO (tR 1 rfl ?_)))
 refine tN (tS (tS (tO (tR 3 rfl (tN ?_)))))
 have ha0:ahd e l≤l.length:=ahd_le e l
 refine tB (lST (σ:=Nat) (fun i=>l.length - i) (fun i=>[(1,.imm (en l)),(3,fl e),(19,.ptr 9 0 0),(20,.int .i64 0),(21,u6 (ahd e (l.take i))),(121,.imm (en l)),(122,.int .i64 ((en l).length:Int)),(123,.int .i64 (i:Int))])
  (fun i S=>i≤l.length∧∃ x3 x6,S=[x,y1,z1,x3,y2,z2,x6,y3,z3,some ⟨6,[gc [e] C3 n3 (ahd e l+cq) lo3 hi3]⟩]) 0 (by (repeat' (first | exact wN | refine wC rfl ?_))) ⟨by omega,_,_,rfl⟩ ?_)
 rintro i S ⟨hi,x3,x6,rfl⟩
 refine tS (tO (tR 1 rfl (tN (tS ?_))))
 refine tQ rfl decide_eq_true_iff (fun c=>tK ?_) (fun c=>tX ?_)
 ·have hi':i<l.length:=by omega
  have hwi:=AdR hL i
  have hq:=eqself' hwi
  have hcm:=AkR (l.getD i 0) e hwi hew
  have hs:=ahd_succ e hi'
  have hb:ahd e (l.take i)≤i:=by
   have:=ahd_le e (l.take i)
   rw [List.length_take] at this
   omega
  generalize ahd e (l.take i)=h0 at *
  refine tS ?_;refine tB ?_;refine tS (tO ?_)
  refine tP (Bl rfl rfl (AQ (d:=0) (by omega)) rfl) rfl rfl rfl rfl ?_;refine tR 2 rfl (tN (tS ?_))
  refine tO (tR 4 rfl ?_)
  rw [hq]
  cases hx:fN (l.getD i 0)
  ·rw [hx] at hs
   refine tR 2 rfl ?_;refine tC rfl rfl (hcm) rfl rfl rfl rfl rfl rfl ?_;refine tR 2 rfl (tN ?_)
   rw [cmp_le]
   by_cases hh:fT (l.getD i 0)≤fT e
   ·rw [decide_eq_true hh] at hs ⊢
    refine AI (t:=true) rfl (fun _=>?_) (fun h=>nomatch h);refine tO (tR 1 rfl ?_)
    refine tP (Ait (b:=1) rfl rfl (AaA (by omega))) rfl rfl rfl rfl ?_;refine tR 1 rfl (tN (tO ?_))
    refine tP (oA (b:=1) rfl rfl (by omega)) rfl rfl rfl rfl ?_;refine tR 1 rfl (tN ?_)
    exact⟨i+1,by omega,by rw [hs];(repeat' (first | exact wN | refine wC rfl ?_)),by omega,_,_,rfl⟩
   ·rw [decide_eq_false hh] at hs ⊢
    refine AI (t:=false) rfl (fun h=>nomatch h) (fun _=>?_);refine tK (tO ?_)
    refine tP (oA (b:=1) rfl rfl (by omega)) rfl rfl rfl rfl ?_;refine tR 1 rfl (tN ?_)
    exact⟨i+1,by omega,by rw [hs];(repeat' (first | exact wN | refine wC rfl ?_)),by omega,_,_,rfl⟩
  ·rw [hx] at hs
   refine tR 5 rfl (tN ?_);refine AI (t:=false) rfl (fun h=>nomatch h) (fun _=>?_);refine tK (tO ?_)
   refine tP (oA (b:=1) rfl rfl (by omega)) rfl rfl rfl rfl ?_;refine tR 1 rfl (tN ?_)
   exact⟨i+1,by omega,by rw [hs];(repeat' (first | exact wN | refine wC rfl ?_)),by omega,_,_,rfl⟩
 ·have:i=l.length:=by omega
  subst this
  rw [List.take_length]
  have hab:ahd e l+cq≤l.length:=by omega
  have hsub:(ahd e l+cq - ahd e l)=cq:=by omega
  generalize ahd e l=h0 at *
  refine tS ?_;refine AfW ?_;refine Am ?_;refine tR 1 rfl (tN ?_);refine Am ?_;refine tR 1 rfl ?_
  refine tN ?_;refine Am ?_;refine tR 1 rfl (tN ?_);refine AV rfl ?_;refine dR 1 rfl ?_
  refine AF rfl (by simp [Zv.closed,Aj,Ao,cLm,cLLm]) (cs) (by simp [Zv.noref,Zv.flat,norefL,Aab,nLm,nLLm]) rfl rfl rfl rfl ?_
  refine dR 2 rfl ?_
  refine AF rfl (by simp [Zv.closed,Aj,Ao,cLm,cLLm]) (ts) (by simp [Zv.noref,Zv.flat,norefL,Aab,nLm,nLLm]) rfl rfl rfl rfl ?_
  refine dR 1 rfl ?_;refine dP rfl rfl (o_subu rfl rfl (by omega) (AaA (by omega))) ?_;refine dN ?_;refine⟨rfl,?_⟩;refine Am ?_
  refine tP (AZ rfl rfl rfl) rfl rfl rfl rfl ?_;refine tN ?_;refine Am ?_
  rw [hsub]
  have eq2:=equalU_ok [h0,cq] (by simp)
  refine AhQ rfl (Bv (fun n=>⟨_,fzO rfl⟩) (Bv (v := .lim (eu [h0,cq])) (v' := .imm (eu [h0,cq])) (fun n=>⟨_,rfl⟩) AiA)) eq2 rfl rfl rfl rfl rfl rfl ?_
  refine tN ?_;refine Am ?_;refine tR 1 rfl (tN ?_);refine Am ?_;refine tR 1 rfl (tN ?_)
  refine AV rfl ?_;refine dR 1 rfl ?_
  refine AF rfl (by simp [Zv.closed,Aj,Ao,cLm,cLLm]) (ts) (by simp [Zv.noref,Zv.flat,norefL,Aab,nLm,nLLm]) rfl rfl rfl rfl ?_
  refine dR 1 rfl ?_
  refine AF rfl (by simp [Zv.closed,Aj,Ao,cLm,cLLm]) (ns) (by simp [Zv.noref,Zv.flat,norefL,Aab,nLm,nLLm]) rfl rfl rfl rfl ?_
  refine dP rfl rfl (Ait rfl rfl (AaA (by omega))) ?_;refine dR 2 rfl ?_;refine dP rfl rfl (Afv rfl (AaA (by omega))) ?_
  refine dN ?_;refine⟨rfl,?_⟩;refine Am ?_;refine tR 1 rfl (tN ?_);refine Am ?_;refine tR 1 rfl ?_
  refine tN ?_;refine Am ?_;refine tR 1 rfl (tN ?_);refine Aos ?_
  rw [show (((h0+cq+n3:Nat):Int) == ((en l).length:Int))=true from beq_iff_eq.2 (by omega)]
  exact tT (AS rfl ⟨_,fzO rfl⟩)
end Go.Eng.Ga
namespace Go.Eng.Ga
open Go Go.Eng Go.RowKit Go.ChangeShapes Go.WideShapes
variable [Inhabited GlobT]
theorem words_of:∀ (rows:List (List Zv)),(∀ r∈rows,AhL [.flt .f64] r)→∃ E:List Nat,rows=E.map (fun w=>[fl w])∧∀ x∈E,W64 x
 | [],_=>⟨[],rfl,fun x h=>by cases h⟩
 | r::rows,h=>by
   obtain⟨E,rfl,hE⟩:=words_of rows fun r hr=>h r (List.mem_cons_of_mem _ hr)
   have h0:=h r (List.mem_cons_self ..)
   simp only [AhL,ShpA] at h0
   obtain⟨_,_,rfl,⟨w,rfl,hw⟩,rfl⟩:=h0
   refine⟨w::E,rfl,fun x hx=>?_⟩
   rcases List.mem_cons.1 hx with rfl | hx
   ·exact of_decide_eq_true hw
   ·exact hE x hx
end Go.Eng.Ga
