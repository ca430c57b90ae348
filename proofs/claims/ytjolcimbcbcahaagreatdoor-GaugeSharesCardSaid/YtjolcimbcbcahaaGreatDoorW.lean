/- The laws' functions are walked: what each answers; no condition. -/
import Derived.Test.YtjolcimbcbcahaaGreatDoorC1
import Derived.Test.YtjolcimbcbcahaaGreatDoorE6
import Derived.Test.YtjolcimbcbcahaaGreatDoorV
import Derived.KernelRfl
import Derived.Test.YtjolcimbcbcahaaGreatDoorE4
import Derived.Laws.Cover2
set_option linter.unusedSectionVars false
set_option linter.unusedVariables false
set_option linter.unusedSimpArgs false
set_option linter.unnecessarySimpa false
namespace Go.Eng.Ga
abbrev f_l30_GaugeShares:Nat:=3
abbrev AtL:Nat:=13
abbrev AzF:Nat:=14
abbrev AcK:Nat:=15
abbrev Adk:Nat:=16
abbrev AdK:Nat:=17
abbrev Aan:Nat:=18
abbrev AmF:Nat:=73
abbrev Adj:Nat:=28
abbrev Abd:Nat:=68
abbrev AbB:Nat:=70
abbrev AaE:Nat:=74
abbrev Apk:Nat:=75
abbrev AeH:Nat:=77
abbrev Aes:Nat:=76
abbrev AcA:Nat:=78
abbrev Ajx:Nat:=140
abbrev AdH:Nat:=84
abbrev Aae:Nat:=85
abbrev Aju:Nat:=82
abbrev AkK:Nat:=80
abbrev AmB:Nat:=81
abbrev AdJ:Nat:=138
abbrev Acz:Nat:=31
abbrev AgE:Nat:=142
abbrev Adl:Nat:=141
abbrev Abq:Nat:=143
abbrev AaC:Nat:=144
abbrev AaD:Nat:=145
abbrev Aag:Nat:=204
abbrev Bbl:Nat:=59
abbrev AwI:Nat:=12
abbrev AaO:Nat:=136
abbrev AdI:Nat:=137
end Go.Eng.Ga
namespace Go.Eng.Ga
open Go Go.Eng
def d_l30_GaugeShares_1:Ac := .seq (.ops [mv 18 0,i1 19 (.len false (.t 18)),i1 20 (.bin .gtr (.t 19) (k6 20)),mv 21 20,ig 22 (.move (.t 1)) 21 false,ig 23 (.len false (.t 22)) 21 false,ig 24 (.bin .gtr (.t 23) (k6 200)) 21 false,i1 25 (.pick (.t 21) (.c (.bool true)) (.t 24)),mv 26 25,ig 27 (.move (.t 0)) 26 false,ig 28 (cf AtL [(.t 27)]) 26 false,ig 29 (.bin .neq (.t 28) (k6 0)) 26 false,i1 30 (.pick (.t 26) (.c (.bool true)) (.t 29))]) (.cond (.t 30) (.seq (.ops [i1 8 (.move (.c (.bool true)))]) (.ret)) (.skip))
def d_l30_GaugeShares_2:Ac := .seq (.ops [mv 46 11,mv 47 11,i1 48 (.bin .neq (.t 46) (.t 47)),mv 49 48,ig 50 (.move (.t 12)) 49 true,ig 51 (.move (.t 12)) 49 true,ig 52 (.bin .neq (.t 50) (.t 51)) 49 true,i1 53 (.pick (.t 49) (.t 52) (.c (.bool false))),mv 8 53]) (.ret)
def d_l30_GaugeShares_3:Ac := .seq (.ops [i1 43 (.load true 6 (.t 9)),i1 44 (cf Adk [(.t 43)]),i1 45 (.bin .eql (.t 44) (.c (.int .u64 0)))]) (.cond (.t 45) (d_l30_GaugeShares_2) (.skip))
def d_l30_GaugeShares_4:Ac := .seq (.ops [mv 54 2,i1 55 (.bin .geq (.t 54) (.c (.flt .f64 0))),mv 56 55,ig 57 (.move (.t 2)) 56 true,ig 58 (.move (.t 3)) 56 true,ig 59 (.bin .leq (.t 57) (.t 58)) 56 true,i1 60 (.pick (.t 56) (.t 59) (.c (.bool false))),mv 61 60,ig 62 (.move (.t 3)) 61 true,ig 63 (.bin .leq (.t 62) (.c (.flt .f64 4607182418800017408))) 61 true,i1 64 (.pick (.t 61) (.t 63) (.c (.bool false))),mv 65 64,ig 66 (.move (.t 11)) 65 true,ig 67 (.move (.t 12)) 65 true,ig 68 (.bin .leq (.t 66) (.t 67)) 65 true,ig 69 (.un .not (.t 68)) 65 true,i1 70 (.pick (.t 65) (.t 69) (.c (.bool false)))]) (.cond (.t 70) (.seq (.ops [i1 8 (.move (.c (.bool false)))]) (.ret)) (.skip))
def d_l30_GaugeShares_5:Ac := .seq (.ops [i1 76 (.load true 6 (.t 9)),i1 77 (cf AcK [(.t 76),(.c (.flt .f64 4607182418800017408))]),mv 15 77]) (.seq (.ops [mv 78 14,mv 79 15,i1 80 (cf Aan [(.t 78),(.t 79)]),i1 81 (.bin .leq (.t 80) (k6 0)),mv 8 81]) (.ret))
def d_l30_GaugeShares_6:Ac := .seq (.ops [i1 72 (.load true 6 (.t 9)),i1 73 (cf AdK [(.t 72)]),mv 71 73,i1 74 (.extract (.t 71) 0),i1 75 (.extract (.t 71) 1),mv 13 74,mv 14 75]) (d_l30_GaugeShares_5)
def d_l30_GaugeShares_7:Ac := .seq (.drawS [[i1 37 (.load true 6 (.t 9)),mu 38 2 [0],i1 39 (cf AcK [(.t 37),(.t 38)]),iu 40 (.load true 6 (.t 9)) [0,1,2],mu 41 3 (ur 4)],[i1 42 (cf AcK [(.t 40),(.t 41)])],[mv 11 39],[mv 12 42]]) (.seq (d_l30_GaugeShares_3) (.seq (d_l30_GaugeShares_4) (d_l30_GaugeShares_6)))
def d_l30_GaugeShares_8:Ac := .seq (.ops [mv 32 0,mv 33 1,i1 34 (cf AzF [(.t 32),(.t 33)]),mv 31 34,i1 35 (.extract (.t 31) 0),i1 36 (.extract (.t 31) 1),i1 9 (.alloc [.nils,.nils,(.int .u64 0),(.int .u64 0),(.flt .f64 0),(.flt .f64 0)]),i0 (.store 6 (.t 9) (.t 35)),mv 10 36]) (d_l30_GaugeShares_7)
def d_l30_GaugeShares_9:Ac := .seq (.seq (.ops [i1 16 (cf AwI []),i1 17 (.un .not (.t 16))]) (.cond (.t 17) (.seq (.ops [i1 8 (.move (.c (.bool false)))]) (.ret)) (.skip))) (.seq (d_l30_GaugeShares_1) (d_l30_GaugeShares_8))
def c_l30_GaugeShares:AFunc:=⟨4,82,[.tmp 8],
 .seq (.ops [i1 8 (.move (.c (.bool false)))]) (d_l30_GaugeShares_9)⟩
def AwV:Ac := .seq (.ops [mv 15 4,mv 16 4,i1 17 (.bin .neq (.t 15) (.t 16)),mv 18 17,ig 19 (.move (.t 3)) 18 false,ig 20 (.bin .gtr (.t 19) (k6 0)) 18 false,ig 21 (.move (.t 20)) 18 false,ig 22 (.move (.t 0)) 21 true,ig 23 (.move (.t 3)) 21 true,ig 24 (.bin .sub (.t 23) (k6 1)) 21 true,ig 25 (.iaddr 1 (.t 22) (.t 24)) 21 true,ig 26 (.load false 1 (.t 25)) 21 true,ig 27 (.move (.t 4)) 21 true,ig 28 (cf AmF [(.t 26),(.t 27)]) 21 true,ig 29 (.bin .geq (.t 28) (k6 0)) 21 true,ig 30 (.pick (.t 21) (.t 29) (.c (.bool false))) 18 false,i1 31 (.pick (.t 18) (.c (.bool true)) (.t 30))]) (.cond (.t 31) (.seq (.ops [i1 2 (.move (k6 21))]) (.ret)) (.skip))
def AwU:Ac := .seq (.block 1 (.seq (.ops [mv 12 10,i1 13 (.iaddr 1 (.t 8) (.t 10)),i1 14 (.load false 1 (.t 13)),mv 3 12,mv 4 14]) (AwV))) (.ops [i1 32 (.bin .add (.t 10) (k6 1)),mv 10 32])
def AwT:Ac := .seq (.ops [mv 8 0,i1 9 (.len false (.t 8)),i1 10 (.move (k6 0))]) (.block 0 (.loop (.seq (.ops [i1 11 (.bin .lss (.t 10) (.t 9))]) (.seq (.cond (.t 11) (.skip) (.exit 0)) (AwU)))))
def AwS:Ac := .seq (.seq (.ops [mv 5 0,i1 6 (.len false (.t 5)),i1 7 (.bin .gtr (.t 6) (k6 32))]) (.cond (.t 7) (.seq (.ops [i1 2 (.move (k6 6))]) (.ret)) (.skip))) (.seq (AwT) (.seq (.ops [i1 2 (.move (k6 0))]) (.ret)))
def Ank:AFunc:=⟨1,33,[.tmp 2],
 .seq (.ops [i1 2 (.move (k6 0))]) (AwS)⟩
def BbI:Ac := .seq (.ops [i1 19 (.iaddr 1 (.t 15) (.t 17)),i1 20 (.load false 1 (.t 19)),mv 9 20]) (.ops [i1 21 (.load true 6 (.t 6)),mv 22 9,i1 23 (cf Abd [(.t 21),(.t 22)]),i0 (.store 6 (.t 6) (.t 23))])
def BbH:Ac := .seq (.ops [i1 18 (.bin .lss (.t 17) (.t 16))]) (.seq (.cond (.t 18) (.skip) (.exit 0)) (.seq (.block 1 (BbI)) (.ops [i1 24 (.bin .add (.t 17) (k6 1)),mv 17 24])))
def BbG:Ac := .seq (.seq (.ops [mv 15 1,i1 16 (.len false (.t 15)),i1 17 (.move (k6 0))]) (.block 0 (.loop (BbH)))) (.seq (.ops [i1 25 (.load true 6 (.t 6)),mv 26 7,i0 (.store 6 (.t 4) (.t 25)),mv 5 26]) (.ret))
def BbF:Ac := .seq (.ops [mv 11 0,i1 12 (cf Adj [(.t 11)]),mv 10 12,i1 13 (.extract (.t 10) 0),i1 14 (.extract (.t 10) 1),i1 6 (.alloc [.nils,.nils,(.int .u64 0),(.int .u64 0),(.flt .f64 0),(.flt .f64 0)]),i0 (.store 6 (.t 6) (.t 13)),mv 7 14]) (BbG)
def ArQ:AFunc:=⟨2,27,[.cell 4 true 6,.tmp 5],
 .seq (.ops [i1 4 (.alloc [.nils,.nils,(.int .u64 0),(.int .u64 0),(.flt .f64 0),(.flt .f64 0)]),i1 5 (.move (k6 0))]) (BbF)⟩
def AiU:Ac := .seq (.ops [i1 9 (.faddr 3 (.t 2)),i1 10 (.load false 1 (.t 9)),i1 11 (.bin .eql (.t 10) (.c (.int .u64 0))),mv 12 11,ig 13 (.move (.t 1)) 12 false,ig 14 (.bin .geq (.t 13) (.c (.flt .f64 0))) 12 false,ig 15 (.move (.t 14)) 12 false,ig 16 (.move (.t 1)) 15 true,ig 17 (.bin .leq (.t 16) (.c (.flt .f64 4607182418800017408))) 15 true,ig 18 (.pick (.t 15) (.t 17) (.c (.bool false))) 12 false,ig 19 (.un .not (.t 18)) 12 false,i1 20 (.pick (.t 12) (.c (.bool true)) (.t 19))]) (.cond (.t 20) (.seq (.ops [i1 21 (cf AbB []),mv 4 21]) (.ret)) (.skip))
def AiT:Ac := .seq (.ops [mv 48 7,i1 49 (.faddr 0 (.t 2)),i1 50 (.load false 1 (.t 49)),i1 51 (.len false (.t 50)),i1 52 (.bin .eql (.t 48) (.t 51)),mv 47 52]) (.cond (.t 47) (.exit 0) (.skip))
def AiS:Ac := .seq (.ops [mv 39 6,i1 40 (.bin .eql (.t 39) (.c (.int .u64 0))),mv 41 40,ig 42 (.move (.t 6)) 41 false,ig 43 (.conv (.flt .f64) (.t 42)) 41 false,ig 44 (.move (.t 5)) 41 false,ig 45 (.bin .lss (.t 43) (.t 44)) 41 false,i1 46 (.pick (.t 41) (.c (.bool true)) (.t 45)),mv 38 46]) (.cond (.t 38) (.exit 1) (AiT))
def AiR:Ac := .seq (.ops [i1 53 (.faddr 0 (.t 2)),i1 54 (.load false 1 (.t 53)),mv 55 7,i1 56 (.iaddr 1 (.t 54) (.t 55)),i1 57 (.load false 1 (.t 56)),mv 4 57]) (.ret)
def AiQ:Ac := .seq (.ops [mv 32 30,i1 33 (.iaddr 1 (.t 28) (.t 30)),i1 34 (.load false 1 (.t 33)),mv 7 32,mv 8 34]) (.seq (.ops [mv 35 6,mv 36 8,i1 37 (.bin .add (.t 35) (.t 36)),mv 6 37]) (.seq (.block 2 (AiS)) (AiR)))
def AiP:Ac := .seq (.ops [i1 31 (.bin .lss (.t 30) (.t 29))]) (.seq (.cond (.t 31) (.skip) (.exit 0)) (.seq (.block 1 (AiQ)) (.ops [i1 58 (.bin .add (.t 30) (k6 1)),mv 30 58])))
def AiO:Ac := .seq (.ops [i1 27 (.load true 6 (.t 2)),i1 28 (cf AaE [(.t 27)]),i1 29 (.len false (.t 28)),i1 30 (.move (k6 0))]) (.block 0 (.loop (AiP)))
def AiN:Ac := .seq (.ops [mv 22 1,i1 23 (.faddr 3 (.t 2)),i1 24 (.load false 1 (.t 23)),i1 25 (.conv (.flt .f64) (.t 24)),i1 26 (.bin .mul (.t 22) (.t 25)),mv 5 26,i1 6 (.move (.c (.int .u64 0)))]) (.seq (.skip) (.seq (AiO) (.seq (.ops [i1 59 (cf Apk [(k6 1)]),mv 4 59]) (.ret))))
def Abl:AFunc:=⟨2,60,[.tmp 4],
 .seq (.ops [i1 2 (.box 6 (.t 0)),i1 4 (.move (.c (.flt .f64 0)))]) (.seq (AiU) (AiN))⟩
def Abs:AFunc:=⟨1,5,[.tmp 2],
 .seq (.ops [i1 1 (.box 6 (.t 0)),i1 2 (.move (.c (.int .u64 0)))]) (.seq (.ops [i1 3 (.faddr 3 (.t 1)),i1 4 (.load false 1 (.t 3)),mv 2 4]) (.ret))⟩
def Agy:Ac := .seq (.ops [i1 4 (.faddr 3 (.t 1)),i1 5 (.load false 1 (.t 4)),i1 6 (.bin .eql (.t 5) (.c (.int .u64 0)))]) (.cond (.t 6) (.seq (.ops [i1 7 (cf AbB []),i1 8 (cf AbB []),mv 2 7,mv 3 8]) (.ret)) (.skip))
def Agx:Ac := .seq (.draw [i1 9 (.faddr 4 (.t 1)),i1 10 (.load false 1 (.t 9)),iu 11 (.faddr 5 (.t 1)) [0,1],iu 12 (.load false 1 (.t 11)) [0,1],mu 2 10 [2,3],mv 3 12]) (.ret)
def AbU:AFunc:=⟨1,13,[.tmp 2,.tmp 3],
 .seq (.ops [i1 1 (.box 6 (.t 0)),i1 2 (.move (.c (.flt .f64 0))),i1 3 (.move (.c (.flt .f64 0)))]) (.seq (Agy) (Agx))⟩
def AuA:Ac := .seq (.ops [mv 6 0,i1 7 (cf AeH [(.t 6)]),mv 8 1,i1 9 (cf AeH [(.t 8)]),i1 10 (cf Aes [(.t 7),(.t 9)]),mv 5 10]) (.seq (.ops [mv 11 5,i1 12 (.bin .neq (.t 11) (k6 0))]) (.cond (.t 12) (.seq (.ops [mv 13 5,mv 4 13]) (.ret)) (.skip)))
def Auz:Ac := .seq (.seq (.ops [mv 14 0,i1 15 (cf AeH [(.t 14)]),i1 16 (.bin .eql (.t 15) (k6 0))]) (.cond (.t 16) (.seq (.ops [i1 4 (.move (k6 0))]) (.ret)) (.skip))) (.seq (.ops [mv 17 0,mv 18 1,i1 19 (cf AcA [(.t 17),(.t 18)]),mv 4 19]) (.ret))
def Akc:AFunc:=⟨2,20,[.tmp 4],
 .seq (.ops [i1 4 (.move (k6 0))]) (.seq (AuA) (Auz))⟩
def AxH:Ac := .seq (.ops [mv 11 5,mv 12 6,i1 13 (.bin .lss (.t 11) (.t 12)),mv 14 13,ig 15 (.move (.t 5)) 14 false,ig 16 (.move (.t 6)) 14 false,ig 17 (.bin .eql (.t 15) (.t 16)) 14 false,ig 18 (.move (.t 17)) 14 false,ig 19 (.move (.t 0)) 18 true,ig 20 (.move (.t 1)) 18 true,ig 21 (.bin .lss (.t 19) (.t 20)) 18 true,ig 22 (.pick (.t 18) (.t 21) (.c (.bool false))) 14 false,i1 23 (.pick (.t 14) (.c (.bool true)) (.t 22))]) (.cond (.t 23) (.seq (.ops [i1 4 (.move (k6 (-1)))]) (.ret)) (.skip))
def AxG:Ac := .seq (.ops [mv 24 5,mv 25 6,i1 26 (.bin .gtr (.t 24) (.t 25)),mv 27 26,ig 28 (.move (.t 0)) 27 false,ig 29 (.move (.t 1)) 27 false,ig 30 (.bin .gtr (.t 28) (.t 29)) 27 false,i1 31 (.pick (.t 27) (.c (.bool true)) (.t 30))]) (.cond (.t 31) (.seq (.ops [i1 4 (.move (k6 1))]) (.ret)) (.skip))
def AxF:Ac := .seq (.ops [mv 7 0,i1 8 (cf Ajx [(.t 7)]),mv 9 1,i1 10 (cf Ajx [(.t 9)]),mv 5 8,mv 6 10]) (.seq (AxH) (.seq (AxG) (.seq (.ops [i1 4 (.move (k6 0))]) (.ret))))
def AfR:AFunc:=⟨2,32,[.tmp 4],
 .seq (.ops [i1 4 (.move (k6 0))]) (AxF)⟩
def ArA:Ac := .seq (.ops [i1 9 (.build [.nils,.nils,(.int .u64 0),(.int .u64 0),(.flt .f64 0),(.flt .f64 0)] []),i0 (.store 6 (.t 2) (.t 9)),i1 3 (.move (k6 6))]) (.ret)
def Arz:Ac := .seq (.ops [i1 33 (.build [.nils,.nils,(.int .u64 0),(.int .u64 0),(.flt .f64 0),(.flt .f64 0)] []),i0 (.store 6 (.t 2) (.t 33)),i1 3 (.move (k6 21))]) (.ret)
def Ary:Ac := .seq (.ops [mv 17 5,i1 18 (cf AdH [(.t 17)]),mv 19 18,ig 20 (.move (.t 4)) 19 false,ig 21 (.bin .gtr (.t 20) (k6 0)) 19 false,ig 22 (.move (.t 21)) 19 false,ig 23 (.move (.t 0)) 22 true,ig 24 (.move (.t 4)) 22 true,ig 25 (.bin .sub (.t 24) (k6 1)) 22 true,ig 26 (.iaddr 1 (.t 23) (.t 25)) 22 true,ig 27 (.load false 1 (.t 26)) 22 true,ig 28 (.move (.t 5)) 22 true,ig 29 (cf Aan [(.t 27),(.t 28)]) 22 true,ig 30 (.bin .geq (.t 29) (k6 0)) 22 true,ig 31 (.pick (.t 22) (.t 30) (.c (.bool false))) 19 false,i1 32 (.pick (.t 19) (.c (.bool true)) (.t 31))]) (.cond (.t 32) (Arz) (.skip))
def Arx:Ac := .seq (.block 1 (.seq (.ops [mv 14 12,i1 15 (.iaddr 1 (.t 10) (.t 12)),i1 16 (.load false 1 (.t 15)),mv 4 14,mv 5 16]) (Ary))) (.ops [i1 34 (.bin .add (.t 12) (k6 1)),mv 12 34])
def Arw:Ac := .seq (.ops [mv 10 0,i1 11 (.len false (.t 10)),i1 12 (.move (k6 0))]) (.block 0 (.loop (.seq (.ops [i1 13 (.bin .lss (.t 12) (.t 11))]) (.seq (.cond (.t 13) (.skip) (.exit 0)) (Arx)))))
def Arv:Ac := .seq (.ops [mv 35 0,i1 36 (cf Aae [(.t 35)]),i1 37 (.build [.nils,.nils,(.int .u64 0),(.int .u64 0),(.flt .f64 0),(.flt .f64 0)] [((0,1),(.t 36))]),i0 (.store 6 (.t 2) (.t 37)),i1 3 (.move (k6 0))]) (.ret)
def Aru:Ac := .seq (.seq (.ops [mv 6 0,i1 7 (.len false (.t 6)),i1 8 (.bin .gtr (.t 7) (k6 32))]) (.cond (.t 8) (ArA) (.skip))) (.seq (Arw) (Arv))
def AeQ:AFunc:=⟨1,38,[.cell 2 true 6,.tmp 3],
 .seq (.ops [i1 2 (.alloc [.nils,.nils,(.int .u64 0),(.int .u64 0),(.flt .f64 0),(.flt .f64 0)]),i1 3 (.move (k6 0))]) (Aru)⟩
def Ahi:Ac := .seq (.ops [i1 7 (.faddr 2 (.t 2)),i1 8 (.load false 1 (.t 7)),i1 9 (cf Aju [(.t 8),(.c (.int .u64 1))]),i1 10 (.faddr 2 (.t 2)),i0 (.store 1 (.t 10) (.t 9))]) (.seq (.ops [i1 11 (.load true 6 (.t 2)),i0 (.store 6 (.t 4) (.t 11))]) (.ret))
def Ahh:Ac := .cond (.t 14) (.ops [mv 15 1,mv 16 1,i1 17 (.faddr 4 (.t 2)),i0 (.store 1 (.t 17) (.t 15)),i1 18 (.faddr 5 (.t 2)),i0 (.store 1 (.t 18) (.t 16))]) (.skip)
def Ahg:Ac := .seq (.draw [i1 38 (.faddr 1 (.t 2)),i1 39 (.load false 1 (.t 38)),iu 40 (.load true 6 (.t 2)) [0,1],mu 41 1 [0,1,2],iu 42 (cf AdJ [(.t 40),(.t 41)]) [0,1],i1 43 (.iaddr 1 (.t 39) (.t 42)),i1 44 (.load false 1 (.t 43)),i1 45 (.bin .add (.t 44) (.c (.int .u64 1))),i1 46 (.iaddr 1 (.t 39) (.t 42)),i0 (.store 1 (.t 46) (.t 45))]) (.seq (.ops [i1 47 (.load true 6 (.t 2)),i0 (.store 6 (.t 4) (.t 47))]) (.ret))
def Ahf:Ac := .seq (.ops [i1 31 (.faddr 3 (.t 2)),i1 32 (.load false 1 (.t 31)),i1 33 (cf Aju [(.t 32),(.c (.int .u64 1))]),i1 34 (.faddr 3 (.t 2)),i0 (.store 1 (.t 34) (.t 33))]) (.seq (.ops [i1 35 (.load true 6 (.t 2)),i1 36 (cf AaE [(.t 35)]),i1 37 (.faddr 1 (.t 2)),i0 (.store 1 (.t 37) (.t 36))]) (Ahg))
def Adm:Ac := .seq (.draw [i1 19 (.faddr 4 (.t 2)),i1 20 (.load false 1 (.t 19)),mu 21 1 [0,1],i1 22 (.buildSlice [(.flt .f64 0)] 1 2 [(0,(.t 20)),(1,(.t 21))]),i1 23 (cf AkK [(.t 22)]),iu 24 (.faddr 5 (.t 2)) (ur 5),iu 25 (.load false 1 (.t 24)) (ur 5),mu 26 1 (ur 7),iu 27 (.buildSlice [(.flt .f64 0)] 1 2 [(0,(.t 25)),(1,(.t 26))]) (ur 5),i1 28 (cf AmB [(.t 27)]),iu 29 (.faddr 4 (.t 2)) [7,8,9],i0 (.store 1 (.t 29) (.t 23)),i1 30 (.faddr 5 (.t 2)),i0 (.store 1 (.t 30) (.t 28))]) (Ahf)
def Ahe:Ac := .seq (.seq (.ops [i1 12 (.faddr 3 (.t 2)),i1 13 (.load false 1 (.t 12)),i1 14 (.bin .eql (.t 13) (.c (.int .u64 0)))]) (Ahh)) (Adm)
def Aaj:AFunc:=⟨2,48,[.cell 4 true 6],
 .seq (.ops [i1 2 (.box 6 (.t 0)),i1 4 (.alloc [.nils,.nils,(.int .u64 0),(.int .u64 0),(.flt .f64 0),(.flt .f64 0)])]) (.seq (.seq (.ops [mv 5 1,i1 6 (cf AdH [(.t 5)])]) (.cond (.t 6) (Ahi) (.skip))) (Ahe))⟩
def Akk:AFunc:=⟨0,2,[.tmp 0],
 .seq (.ops [i1 0 (.move (.c (.flt .f64 0)))]) (.seq (.ops [i1 1 (cf AaO [(.c (.int .u64 9221120237041090561))]),mv 0 1]) (.ret))⟩
def Afe:Ac := .seq (.ops [i1 4 (.faddr 0 (.t 1)),i1 5 (.load false 1 (.t 4)),i1 6 (.len false (.t 5)),i1 7 (.bin .add (.t 6) (k6 1)),i1 8 (.makeSlice [(.int .u64 0)] 1 8 (.t 7) (.t 7)),mv 3 8]) (.seq (.ops [mv 9 3,i1 10 (.faddr 1 (.t 1)),i1 11 (.load false 1 (.t 10)),i1 12 (.copy 1 (.t 9) (.t 11))]) (.seq (.ops [mv 13 3,mv 2 13]) (.ret)))
def Abf:AFunc:=⟨1,14,[.tmp 2],
 .seq (.ops [i1 1 (.box 6 (.t 0)),i1 2 (.move (.c .nils))]) (Afe)⟩
def Avf:Ac := .seq (.ops [mv 4 0,i1 5 (.bin .geq (.t 4) (k6 0))]) (.cond (.t 5) (.ops [i1 3 (.move (.c (.int .u64 9218868437227405312)))]) (.ops [i1 3 (.move (.c (.int .u64 18442240474082181120)))]))
def Akl:AFunc:=⟨1,8,[.tmp 2],
 .seq (.ops [i1 2 (.move (.c (.flt .f64 0)))]) (.seq (.ops [i1 3 (.move (.c (.int .u64 0)))]) (.seq (Avf) (.seq (.ops [mv 6 3,i1 7 (cf AaO [(.t 6)]),mv 2 7]) (.ret))))⟩
def AqN:Ac := .cond (.t 19) (.seq (.ops [i1 2 (.move (k6 4))]) (.ret)) (.seq (.ops [mv 23 0,i1 24 (cf Acz [(.t 23),(k6 1)]),mv 22 24]) (.cond (.t 22) (.seq (.ops [i1 2 (.move (k6 6))]) (.ret)) (.skip)))
def AqM:Ac := .cond (.t 12) (.seq (.ops [i1 2 (.move (k6 3))]) (.ret)) (.seq (.ops [mv 20 0,i1 21 (.bin .eql (.t 20) (.c (.flt .f64 0))),mv 19 21]) (AqN))
def AqL:Ac := .seq (.ops [mv 13 0,i1 14 (.bin .eql (.t 13) (.c (.flt .f64 0))),mv 15 14,ig 16 (.move (.t 0)) 15 true,ig 17 (cf AgE [(.t 16)]) 15 true,i1 18 (.pick (.t 15) (.t 17) (.c (.bool false))),mv 12 18]) (AqM)
def AqK:Ac := .cond (.t 6) (.seq (.ops [i1 2 (.move (k6 1))]) (.ret)) (.seq (.ops [mv 10 0,i1 11 (.bin .lss (.t 10) (.c (.flt .f64 0))),mv 9 11]) (.cond (.t 9) (.seq (.ops [i1 2 (.move (k6 2))]) (.ret)) (AqL)))
def AqJ:Ac := .seq (.ops [mv 4 0,i1 5 (cf AdH [(.t 4)]),mv 3 5]) (.cond (.t 3) (.seq (.ops [i1 2 (.move (k6 0))]) (.ret)) (.seq (.ops [mv 7 0,i1 8 (cf Acz [(.t 7),(k6 (-1))]),mv 6 8]) (AqK)))
def AaJ:AFunc:=⟨1,25,[.tmp 2],
 .seq (.ops [i1 2 (.move (k6 0))]) (.seq (.block 0 (AqJ)) (.seq (.ops [i1 2 (.move (k6 5))]) (.ret)))⟩
def Ahm:Ac := .cond (.t 11) (.seq (.seq (.ops [mv 12 6]) (.cond (.t 12) (.seq (.ops [i1 4 (.move (k6 0))]) (.ret)) (.skip))) (.seq (.ops [i1 4 (.move (k6 (-1)))]) (.ret))) (.skip)
def Ahl:Ac := .seq (.seq (.ops [mv 17 0,mv 18 1,i1 19 (.bin .gtr (.t 17) (.t 18))]) (.cond (.t 19) (.seq (.ops [i1 4 (.move (k6 1))]) (.ret)) (.skip))) (.seq (.ops [i1 4 (.move (k6 0))]) (.ret))
def Ahk:Ac := .seq (.seq (.ops [mv 14 0,mv 15 1,i1 16 (.bin .lss (.t 14) (.t 15))]) (.cond (.t 16) (.seq (.ops [i1 4 (.move (k6 (-1)))]) (.ret)) (.skip))) (Ahl)
def Ahj:Ac := .seq (.seq (.ops [mv 11 5]) (Ahm)) (.seq (.seq (.ops [mv 13 6]) (.cond (.t 13) (.seq (.ops [i1 4 (.move (k6 1))]) (.ret)) (.skip))) (Ahk))
def Acj:AFunc:=⟨2,20,[.tmp 4],
 .seq (.ops [i1 4 (.move (k6 0))]) (.seq (.ops [mv 7 0,i1 8 (cf Adl [(.t 7)]),mv 5 8]) (.seq (.ops [mv 9 1,i1 10 (cf Adl [(.t 9)]),mv 6 10]) (Ahj)))⟩
def AeN:Ac := .cond (.t 11) (.seq (.seq (.ops [mv 12 6]) (.cond (.t 12) (.seq (.ops [i1 4 (.move (k6 0))]) (.ret)) (.skip))) (.seq (.ops [i1 4 (.move (k6 (-1)))]) (.ret))) (.skip)
def AeM:Ac := .seq (.seq (.ops [mv 17 0,mv 18 1,i1 19 (.bin .gtr (.t 17) (.t 18))]) (.cond (.t 19) (.seq (.ops [i1 4 (.move (k6 1))]) (.ret)) (.skip))) (.seq (.ops [i1 4 (.move (k6 0))]) (.ret))
def AeL:Ac := .seq (.seq (.ops [mv 14 0,mv 15 1,i1 16 (.bin .lss (.t 14) (.t 15))]) (.cond (.t 16) (.seq (.ops [i1 4 (.move (k6 (-1)))]) (.ret)) (.skip))) (AeM)
def AeK:Ac := .seq (.seq (.ops [mv 11 5]) (AeN)) (.seq (.seq (.ops [mv 13 6]) (.cond (.t 13) (.seq (.ops [i1 4 (.move (k6 1))]) (.ret)) (.skip))) (AeL))
def AaX:AFunc:=⟨2,20,[.tmp 4],
 .seq (.ops [i1 4 (.move (k6 0))]) (.seq (.ops [mv 7 0,i1 8 (cf Abq [(.t 7)]),mv 5 8]) (.seq (.ops [mv 9 1,i1 10 (cf Abq [(.t 9)]),mv 6 10]) (AeK)))⟩
def Ave:Ac := .seq (.ops [mv 8 0,mv 9 0,i1 10 (.bin .add (.t 8) (.t 9)),mv 11 0,i1 12 (.bin .eql (.t 10) (.t 11))]) (.cond (.t 12) (.seq (.ops [i1 2 (.move (k6 1))]) (.ret)) (.skip))
def Avd:Ac := .seq (.ops [mv 6 0,i1 7 (.bin .lss (.t 6) (.c (.flt .f64 0)))]) (.cond (.t 7) (.seq (Ave) (.seq (.ops [i1 2 (.move (k6 2))]) (.ret))) (.skip))
def Avc:Ac := .seq (.ops [mv 15 0,mv 16 0,i1 17 (.bin .add (.t 15) (.t 16)),mv 18 0,i1 19 (.bin .eql (.t 17) (.t 18))]) (.cond (.t 19) (.seq (.ops [i1 2 (.move (k6 6))]) (.ret)) (.skip))
def Avb:Ac := .seq (.ops [mv 13 0,i1 14 (.bin .gtr (.t 13) (.c (.flt .f64 0)))]) (.cond (.t 14) (.seq (Avc) (.seq (.ops [i1 2 (.move (k6 5))]) (.ret))) (.skip))
def Ava:Ac := .seq (.ops [mv 20 0,i1 21 (.bin .quo (.c (.flt .f64 4607182418800017408)) (.t 20)),i1 22 (.bin .lss (.t 21) (.c (.flt .f64 0)))]) (.cond (.t 22) (.seq (.ops [i1 2 (.move (k6 3))]) (.ret)) (.skip))
def AuZ:Ac := .seq (.seq (.ops [mv 3 0,mv 4 0,i1 5 (.bin .neq (.t 3) (.t 4))]) (.cond (.t 5) (.seq (.ops [i1 2 (.move (k6 0))]) (.ret)) (.skip))) (.seq (Avd) (.seq (Avb) (.seq (Ava) (.seq (.ops [i1 2 (.move (k6 4))]) (.ret)))))
def Ach:AFunc:=⟨1,23,[.tmp 2],
 .seq (.ops [i1 2 (.move (k6 0))]) (AuZ)⟩
def AfS:AFunc:=⟨1,6,[.tmp 2],
 .seq (.ops [i1 2 (.move (.c (.bool false)))]) (.seq (.ops [mv 3 0,mv 4 0,i1 5 (.bin .neq (.t 3) (.t 4)),mv 2 5]) (.ret))⟩
def AbW:Ac := .seq (.seq (.ops [mv 3 0,i1 4 (.isNil .slice false (.t 3))]) (.cond (.t 4) (.seq (.ops [i1 2 (.move (.c .nils))]) (.ret)) (.skip))) (.seq (.ops [i1 5 (.buildSlice [(.flt .f64 0)] 1 0 []),mv 6 0,i1 7 (.append 1 8 (.t 5) (.t 6)),mv 2 7]) (.ret))
def Aak:AFunc:=⟨1,8,[.tmp 2],
 .seq (.ops [i1 2 (.move (.c .nils))]) (AbW)⟩
def Auf:Ac := .seq (.ops [mv 5 1,mv 6 0,i1 7 (.bin .sub (.c (.int .u64 18446744073709551615)) (.t 6)),i1 8 (.bin .gtr (.t 5) (.t 7))]) (.cond (.t 8) (.seq (.ops [i1 4 (.move (.c (.int .u64 18446744073709551615)))]) (.ret)) (.skip))
def AjX:AFunc:=⟨2,12,[.tmp 4],
 .seq (.ops [i1 4 (.move (.c (.int .u64 0)))]) (.seq (Auf) (.seq (.ops [mv 9 0,mv 10 1,i1 11 (.bin .add (.t 9) (.t 10)),mv 4 11]) (.ret)))⟩
def AnT:Ac := .seq (.seq (.ops [mv 3 0,i1 4 (.len false (.t 3)),i1 5 (.bin .eql (.t 4) (k6 0))]) (.cond (.t 5) (.seq (.ops [i1 6 (cf AbB []),mv 2 6]) (.ret)) (.skip))) (.seq (.ops [mv 7 0,i1 8 (cf AaC [(.t 7),(.c (.fn (.func Aan) [] []))]),mv 2 8]) (.ret))
def AfN:AFunc:=⟨1,9,[.tmp 2],
 .seq (.ops [i1 2 (.move (.c (.flt .f64 0)))]) (AnT)⟩
def AqI:Ac := .seq (.seq (.ops [mv 3 0,i1 4 (.len false (.t 3)),i1 5 (.bin .eql (.t 4) (k6 0))]) (.cond (.t 5) (.seq (.ops [i1 6 (cf AbB []),mv 2 6]) (.ret)) (.skip))) (.seq (.ops [mv 7 0,i1 8 (cf AaD [(.t 7),(.c (.fn (.func Aan) [] []))]),mv 2 8]) (.ret))
def AhA:AFunc:=⟨1,9,[.tmp 2],
 .seq (.ops [i1 2 (.move (.c (.flt .f64 0)))]) (AqI)⟩
def Agw:Ac := .seq (.ops [i1 8 (.faddr 0 (.t 2)),i1 9 (.load false 1 (.t 8)),mv 10 1,i1 11 (cf Aag [(.t 9),(.t 10),(.c (.fn (.func Aan) [] []))]),mv 7 11,i1 12 (.extract (.t 7) 0),i1 13 (.extract (.t 7) 1),mv 5 12,mv 6 13]) (.seq (.ops [mv 14 5,mv 4 14]) (.ret))
def AbT:AFunc:=⟨2,15,[.tmp 4],
 .seq (.ops [i1 2 (.box 6 (.t 0)),i1 4 (.move (k6 0))]) (Agw)⟩
def Aoo:Ac := .cond (.t 6) (.ops [mv 7 0,i1 8 (cf Bbl [(.t 7)]),mv 0 8]) (.seq (.ops [mv 9 1,i1 10 (.bin .lss (.t 9) (k6 0))]) (.cond (.t 10) (.ops [mv 11 0,i1 12 (.un .neg (.t 11)),mv 0 12]) (.skip)))
def Aon:Ac := .seq (.seq (.ops [mv 5 1,i1 6 (.bin .eql (.t 5) (k6 0))]) (Aoo)) (.seq (.ops [mv 13 0,i1 14 (.bin .gtr (.t 13) (.c (.flt .f64 9218868437227405311))),mv 4 14]) (.ret))
def AdN:AFunc:=⟨2,15,[.tmp 4],
 .seq (.ops [i1 4 (.move (.c (.bool false)))]) (Aon)⟩
def Aea:AFunc:=⟨1,7,[.tmp 2],
 .seq (.ops [i1 2 (.move (.c (.bool false)))]) (.seq (.ops [mv 3 0,i1 4 (cf AdI [(.t 3)]),i1 5 (.conv (.int .i64) (.t 4)),i1 6 (.bin .lss (.t 5) (k6 0)),mv 2 6]) (.ret))⟩
def Adq:AFunc:=⟨1,6,[.tmp 2],
 .seq (.ops [i1 2 (.move (.c (.bool false)))]) (.seq (.ops [mv 3 0,mv 4 0,i1 5 (.bin .neq (.t 3) (.t 4)),mv 2 5]) (.ret))⟩
def Abu:AFunc:=⟨1,6,[.tmp 2],
 .seq (.ops [i1 2 (.move (.c (.bool false)))]) (.seq (.ops [mv 3 0,mv 4 0,i1 5 (.bin .neq (.t 3) (.t 4)),mv 2 5]) (.ret))⟩
def AbG:Ac := .seq (.ops [mv 20 1,mv 21 0,mv 22 6,i1 23 (.iaddr 1 (.t 21) (.t 22)),i1 24 (.load false 1 (.t 23)),mv 25 5,i1 26 (.call (.t 20) [(.t 24),(.t 25)]),i1 27 (.bin .lss (.t 26) (k6 0))]) (.cond (.t 27) (.ops [mv 28 0,mv 29 6,i1 30 (.iaddr 1 (.t 28) (.t 29)),i1 31 (.load false 1 (.t 30)),mv 5 31]) (.skip))
def AbF:Ac := .seq (.seq (.ops [mv 14 6,mv 15 0,i1 16 (.len false (.t 15)),i1 17 (.bin .lss (.t 14) (.t 16))]) (.cond (.t 17) (.skip) (.exit 0))) (.seq (.block 1 (AbG)) (.ops [mv 18 6,i1 19 (.bin .add (.t 18) (k6 1)),mv 6 19]))
def AbE:Ac := .seq (.ops [mv 11 0,i1 12 (.iaddr 1 (.t 11) (k6 0)),i1 13 (.load false 1 (.t 12)),mv 5 13]) (.seq (.seq (.ops [i1 6 (.move (k6 1))]) (.block 0 (.loop (AbF)))) (.seq (.ops [mv 32 5,mv 4 32]) (.ret)))
def AbD:Ac := .seq (.seq (.ops [mv 7 0,i1 8 (.len false (.t 7)),i1 9 (.bin .lss (.t 8) (k6 1))]) (.cond (.t 9) (.ops [i1 10 .bad,i0 .bad]) (.skip))) (AbE)
def Aah:AFunc:=⟨2,33,[.tmp 4],
 .seq (.ops [i1 4 (.move (.c (.flt .f64 0)))]) (AbD)⟩
def AbK:Ac := .seq (.ops [mv 20 1,mv 21 0,mv 22 6,i1 23 (.iaddr 1 (.t 21) (.t 22)),i1 24 (.load false 1 (.t 23)),mv 25 5,i1 26 (.call (.t 20) [(.t 24),(.t 25)]),i1 27 (.bin .gtr (.t 26) (k6 0))]) (.cond (.t 27) (.ops [mv 28 0,mv 29 6,i1 30 (.iaddr 1 (.t 28) (.t 29)),i1 31 (.load false 1 (.t 30)),mv 5 31]) (.skip))
def AbJ:Ac := .seq (.seq (.ops [mv 14 6,mv 15 0,i1 16 (.len false (.t 15)),i1 17 (.bin .lss (.t 14) (.t 16))]) (.cond (.t 17) (.skip) (.exit 0))) (.seq (.block 1 (AbK)) (.ops [mv 18 6,i1 19 (.bin .add (.t 18) (k6 1)),mv 6 19]))
def AbI:Ac := .seq (.ops [mv 11 0,i1 12 (.iaddr 1 (.t 11) (k6 0)),i1 13 (.load false 1 (.t 12)),mv 5 13]) (.seq (.seq (.ops [i1 6 (.move (k6 1))]) (.block 0 (.loop (AbJ)))) (.seq (.ops [mv 32 5,mv 4 32]) (.ret)))
def AbH:Ac := .seq (.seq (.ops [mv 7 0,i1 8 (.len false (.t 7)),i1 9 (.bin .lss (.t 8) (k6 1))]) (.cond (.t 9) (.ops [i1 10 .bad,i0 .bad]) (.skip))) (AbI)
def Aai:AFunc:=⟨2,33,[.tmp 4],
 .seq (.ops [i1 4 (.move (.c (.flt .f64 0)))]) (AbH)⟩
def Aaz:Ac := .seq (.ops [mv 24 2,mv 25 0,mv 26 11,i1 27 (.iaddr 1 (.t 25) (.t 26)),i1 28 (.load false 1 (.t 27)),mv 29 1,i1 30 (.call (.t 24) [(.t 28),(.t 29)]),i1 31 (.bin .lss (.t 30) (k6 0))]) (.cond (.t 31) (.ops [mv 32 11,i1 33 (.bin .add (.t 32) (k6 1)),mv 9 33]) (.ops [mv 34 11,mv 10 34]))
def Aay:Ac := .seq (.ops [mv 18 9,mv 19 10,i1 20 (.bin .add (.t 18) (.t 19)),i1 21 (.conv (.int .u64) (.t 20)),i1 22 (.bin .shr (.t 21) (.c (.int .u64 1))),i1 23 (.conv (.int .i64) (.t 22)),mv 11 23]) (Aaz)
def Aax:Ac := .seq (.seq (.ops [mv 15 9,mv 16 10,i1 17 (.bin .lss (.t 15) (.t 16))]) (.cond (.t 17) (.skip) (.exit 0))) (.block 1 (Aay))
def Aaw:Ac := .seq (.ops [mv 35 9,mv 36 9,mv 37 8,i1 38 (.bin .lss (.t 36) (.t 37)),mv 39 38,ig 40 (.move (.t 2)) 39 true,ig 41 (.move (.t 0)) 39 true,ig 42 (.move (.t 9)) 39 true,ig 43 (.iaddr 1 (.t 41) (.t 42)) 39 true,ig 44 (.load false 1 (.t 43)) 39 true,ig 45 (.move (.t 1)) 39 true,ig 46 (.call (.t 40) [(.t 44),(.t 45)]) 39 true,ig 47 (.bin .eql (.t 46) (k6 0)) 39 true,i1 48 (.pick (.t 39) (.t 47) (.c (.bool false))),mv 6 35,mv 7 48]) (.ret)
def Aav:Ac := .seq (.ops [mv 14 8,i1 9 (.move (k6 0)),mv 10 14]) (.seq (.block 0 (.loop (Aax))) (Aaw))
def Aad:AFunc:=⟨3,49,[.tmp 6,.tmp 7],
 .seq (.ops [i1 6 (.move (k6 0)),i1 7 (.move (.c (.bool false)))]) (.seq (.ops [mv 12 0,i1 13 (.len false (.t 12)),mv 8 13]) (Aav))⟩
def Apw:AFunc:=⟨1,7,[.tmp 2],
 .seq (.ops [i1 2 (.move (.c (.flt .f64 0)))]) (.seq (.ops [mv 3 0,i1 4 (cf AdI [(.t 3)]),i1 5 (.bin .andNot (.t 4) (.c (.int .u64 9223372036854775808))),i1 6 (cf AaO [(.t 5)]),mv 2 6]) (.ret))⟩
def fnG (n:Nat):Option AFunc:=(bif Nat.blt n 76 then (bif Nat.blt n 28 then (bif Nat.blt n 15 then (bif Nat.blt n 13 then (bif Nat.beq n 3 then some c_l30_GaugeShares else none) else (bif Nat.blt n 14 then (bif Nat.beq n 13 then some Ank else none) else (bif Nat.beq n 14 then some ArQ else none))) else (bif Nat.blt n 17 then (bif Nat.blt n 16 then (bif Nat.beq n 15 then some Abl else none) else (bif Nat.beq n 16 then some Abs else none)) else (bif Nat.blt n 18 then (bif Nat.beq n 17 then some AbU else none) else (bif Nat.beq n 18 then some Akc else none)))) else (bif Nat.blt n 70 then (bif Nat.blt n 59 then (bif Nat.blt n 31 then (bif Nat.beq n 28 then some AeQ else none) else (bif Nat.beq n 31 then some AdN else none)) else (bif Nat.blt n 68 then (bif Nat.beq n 59 then some Apw else none) else (bif Nat.beq n 68 then some Aaj else none))) else (bif Nat.blt n 74 then (bif Nat.blt n 73 then (bif Nat.beq n 70 then some Akk else none) else (bif Nat.beq n 73 then some AfR else none)) else (bif Nat.blt n 75 then (bif Nat.beq n 74 then some Abf else none) else (bif Nat.beq n 75 then some Akl else none))))) else (bif Nat.blt n 138 then (bif Nat.blt n 81 then (bif Nat.blt n 78 then (bif Nat.blt n 77 then (bif Nat.beq n 76 then some Acj else none) else (bif Nat.beq n 77 then some AaJ else none)) else (bif Nat.blt n 80 then (bif Nat.beq n 78 then some AaX else none) else (bif Nat.beq n 80 then some AfN else none))) else (bif Nat.blt n 84 then (bif Nat.blt n 82 then (bif Nat.beq n 81 then some AhA else none) else (bif Nat.beq n 82 then some AjX else none)) else (bif Nat.blt n 85 then (bif Nat.beq n 84 then some AfS else none) else (bif Nat.beq n 85 then some Aak else none)))) else (bif Nat.blt n 143 then (bif Nat.blt n 141 then (bif Nat.blt n 140 then (bif Nat.beq n 138 then some AbT else none) else (bif Nat.beq n 140 then some Ach else none)) else (bif Nat.blt n 142 then (bif Nat.beq n 141 then some Adq else none) else (bif Nat.beq n 142 then some Aea else none))) else (bif Nat.blt n 145 then (bif Nat.blt n 144 then (bif Nat.beq n 143 then some Abu else none) else (bif Nat.beq n 144 then some Aah else none)) else (bif Nat.blt n 204 then (bif Nat.beq n 145 then some Aai else none) else (bif Nat.beq n 204 then some Aad else none))))))
def pureG (n:Nat):Option (List Zv→Option Zv):=bif Nat.beq n 12 then some (fun l=>match l with
 | []=>some (.bool true)
 | _=>none) else bif Nat.beq n 136 then some AfA else bif Nat.beq n 137 then some BbV else none
def APg:Aaa:={fn:=fnG,keep:=fun n=>Nat.beq n 85,split:=fun n=>Nat.beq n 85,share:=fun n=>Nat.beq n 74,prim:=fun _=>none,pure:=pureG,slim:=true}
end Go.Eng.Ga
namespace Go.Eng.Ga
open Go Go.Eng
variable [Inhabited GlobT]
attribute [local irreducible] OpR TL TD TC TS Ak
abbrev fl (w:Nat):Zv := .flt .f64 w
abbrev W64 (w:Nat):Prop:=w<18446744073709551616
theorem Aix (w:Nat) (hw:W64 w):Ak APg AdH [fl w] (.bool (fN w)):=by
 have h:(FloatKind.f64.format.order w w != some .eq)=fN w:=by rw [fo_ne hw hw];simp
 rw [←h]
 refine Al (af:=AfS) rfl rfl ?_
 refine tS (tO (tR 1 rfl (tN (tS (tO (tR 4 rfl ?_))))))
 refine tN ?_;exact tT (AS rfl ⟨_,fzO rfl⟩)
theorem Avw (w:Nat) (hw:W64 w):Ak APg Abq [fl w] (.bool (fN w)):=by
 have h:(FloatKind.f64.format.order w w != some .eq)=fN w:=by rw [fo_ne hw hw];simp
 rw [←h]
 refine Al (af:=Abu) rfl rfl ?_
 refine tS (tO (tR 1 rfl (tN (tS (tO (tR 4 rfl ?_))))))
 refine tN ?_;exact tT (AS rfl ⟨_,fzO rfl⟩)
theorem Azh {w:Nat} (hw:W64 w):W64 (Op.negFloat .f64 w)∧fR (Op.negFloat .f64 w)=fR w∧fS (Op.negFloat .f64 w) = !fS w:=by
 have e:Op.negFloat .f64 w=w ^^^ 2^63:=rfl
 have h1:=Nat.xor_mod_two_pow (a:=w) (b:=2^63) (n:=63)
 have h2:=Nat.xor_div_two_pow (a:=w) (b:=2^63) (n:=63)
 rw [e]
 generalize w ^^^ 2^63=v at *
 have h3:w / 2^63=0∨w / 2^63=1:=by unfold W64 at hw;omega
 have h4:(2:Nat)^63%2^63=0:=by decide
 rw [h4,Nat.xor_zero] at h1
 unfold W64 fR fS
 rcases h3 with h | h
 ·rw [h] at h2
  have h2:v / 2^63=1:=h2
  refine⟨by omega,h1,?_⟩
  rw [decide_eq_true (by omega),decide_eq_false (by omega)];rfl
 ·rw [h] at h2
  have h2:v / 2^63=0:=h2
  refine⟨by omega,h1,?_⟩
  rw [decide_eq_false (by omega),decide_eq_true (by omega)];rfl
theorem fN_neg {w:Nat} (hw:W64 w):fN (Op.negFloat .f64 w)=fN w:=by unfold fN;rw [(Azh hw).2.1]
theorem gt_max {w:Nat} (hw:W64 w):(FloatKind.f64.format.order w 9218868437227405311 == some .gt)=(!fN w && !fS w && decide (fR w=infR)):=by
 rw [Bbd hw (by omega)]
 have h1:fN 9218868437227405311=false:=by decide
 have h2:fK 9218868437227405311=9218868437227405311:=by decide
 rw [h1,h2]
 unfold fK fN infR
 rcases Nat.lt_or_ge 9218868437227405312 (fR w) with h | h
 ·rw [decide_eq_true h];rfl
 ·rw [decide_eq_false (by omega:¬ 9218868437227405312<fR w)]
  cases fS w
  ·simp
   omega
  ·simp
theorem Azu (w:Nat) (hw:W64 w):Ak APg Acz [fl w,.int .i64 1] (.bool (!fN w && !fS w && decide (fR w=infR))):=by
 rw [←gt_max hw]
 refine Al (af:=AdN) rfl rfl ?_
 refine tS (tO (tR 1 rfl (tN (tS (tS (tO ?_))))))
 refine tR 2 rfl (tN ?_);refine AI (t:=false) rfl (fun h=>nomatch h) (fun _=>?_);refine tS (tO ?_)
 refine tR 2 rfl (tN ?_);refine AI (t:=false) rfl (fun h=>nomatch h) (fun _=>?_);refine tK (tS ?_)
 refine tO (tR 3 rfl (tN ?_));exact tT (AS rfl ⟨_,fzO rfl⟩)
theorem isInfM_ok (w:Nat) (hw:W64 w):Ak APg Acz [fl w,.int .i64 (-1)] (.bool (!fN w && fS w && decide (fR w=infR))):=by
 obtain⟨h1,h2,h3⟩:=Azh hw
 have:=gt_max h1
 rw [fN_neg hw,h2,h3,Bool.not_not] at this
 rw [←this]
 refine Al (af:=AdN) rfl rfl ?_
 refine tS (tO (tR 1 rfl (tN (tS (tS (tO ?_))))))
 refine tR 2 rfl (tN ?_);refine AI (t:=false) rfl (fun h=>nomatch h) (fun _=>?_);refine tS (tO ?_)
 refine tR 2 rfl (tN ?_);refine AI (t:=true) rfl (fun _=>?_) (fun h=>nomatch h);refine tO (tR 1 rfl ?_)
 refine tP (o_un rfl rfl) rfl rfl rfl rfl ?_
 refine tR 1 rfl (tN (tS (tO (tR 3 rfl (tN ?_)))))
 exact tT (AS rfl ⟨_,fzO rfl⟩)
theorem Bas (w:Nat) (hw:W64 w):Ak APg AgE [fl w] (.bool (fS w)):=by
 have h:decide (IntKind.wrap .i64 (w:Int)<0)=fS w:=by
  unfold fS
  refine decide_eq_decide.2 ?_
  simp [IntKind.wrap,IntKind.signed,IntKind.bits]
  unfold W64 at hw
  split<;>omega
 rw [←h]
 refine Al (af:=Aea) rfl rfl ?_
 refine tS (tO (tR 1 rfl (tN (tS (tO (tR 2 rfl ?_))))))
 refine tP (Amn rfl) rfl rfl rfl rfl ?_
 refine tR 2 rfl (tN ?_);exact tT (AS rfl ⟨_,fzO rfl⟩)
def kd (w:Nat):Nat:=if fN w then 0 else if fS w then (if fR w=infR then 1 else if fR w=0 then 3 else 2) else (if fR w=infR then 6 else if fR w=0 then 4 else 5)
theorem fo_z (w:Nat) (hw:W64 w):(FloatKind.f64.format.order w 0 == some .lt)=(!fN w && decide (fK w<0))∧(FloatKind.f64.format.order w 0 == some .eq)=(!fN w && decide (fK w=0)):=by
 have h1:fN 0=false:=by decide
 have h2:fK 0=0:=by decide
 rw [fo_lt hw (by omega),fo_eq hw (by omega),h1,h2]
 simp
theorem kind_ok (w:Nat) (hw:W64 w):Ak APg AeH [fl w] (.int .i64 (kd w:Int)):=by
 have hn:=Aix w hw
 have hi:=Azu w hw
 have hm:=isInfM_ok w hw
 have hs:=Bas w hw
 obtain⟨hz,he⟩:=fo_z w hw
 have hR:=fR_lt w
 unfold kd
 by_cases c0:fN w=true
 ·rw [c0] at hn ⊢
  refine Al (af:=AaJ) rfl rfl ?_
  refine tS (tO (tR 1 rfl (tN (tS ?_))));refine tB ?_;refine tS (tO ?_)
  refine tR 1 rfl ?_;refine tC rfl rfl (hn) rfl rfl rfl rfl rfl rfl ?_;refine tR 1 rfl (tN ?_)
  refine AI (t:=true) rfl (fun _=>?_) (fun h=>nomatch h);refine tS (tO (tR 1 rfl (tN ?_)))
  exact tT (AS rfl ⟨_,fzO rfl⟩)
 have c0:fN w=false:=by simpa using c0
 rw [c0] at hn hi hm hz he ⊢
 by_cases c2:fR w=infR
 ·rw [decide_eq_true c2] at hi hm
  cases c1:fS w
  ·rw [c1] at hi hm
   have k:fK w=infR:=by unfold fK;rw [c1,c2];rfl
   rw [k] at hz he
   rw [if_pos c2,if_pos c2]
   refine Al (af:=AaJ) rfl rfl ?_
   refine tS (tO (tR 1 rfl (tN (tS ?_))));refine tB ?_;refine tS (tO ?_)
   refine tR 1 rfl ?_;refine tC rfl rfl (hn) rfl rfl rfl rfl rfl rfl ?_;refine tR 1 rfl (tN ?_)
   refine AI (t:=false) rfl (fun h=>nomatch h) (fun _=>?_);refine tS (tO (tR 1 rfl ?_))
   refine tC rfl rfl (hm) rfl rfl rfl rfl rfl rfl ?_;refine tR 1 rfl (tN ?_)
   refine AI (t:=false) rfl (fun h=>nomatch h) (fun _=>?_);refine tS (tO (tR 3 rfl (tN ?_)))
   rw [show (FloatKind.f64.format.order w 0 == some .lt)=false from hz]
   refine AI (t:=false) rfl (fun h=>nomatch h) (fun _=>?_);refine tS (tO (tR 3 rfl ?_))
   rw [show (FloatKind.f64.format.order w 0 == some .eq)=false from he]
   refine tR 4 rfl (tN ?_);refine AI (t:=false) rfl (fun h=>nomatch h) (fun _=>?_);refine tS (tO ?_)
   refine tR 3 rfl (tN ?_)
   rw [show (FloatKind.f64.format.order w 0 == some .eq)=false from he]
   refine AI (t:=false) rfl (fun h=>nomatch h) (fun _=>?_);refine tS (tO (tR 1 rfl ?_))
   refine tC rfl rfl (hi) rfl rfl rfl rfl rfl rfl ?_;refine tR 1 rfl (tN ?_)
   refine AI (t:=true) rfl (fun _=>?_) (fun h=>nomatch h);refine tS (tO (tR 1 rfl (tN ?_)))
   exact tT (AS rfl ⟨_,fzO rfl⟩)
  ·rw [c1] at hi hm
   rw [if_pos c2,if_pos c2]
   refine Al (af:=AaJ) rfl rfl ?_
   refine tS (tO (tR 1 rfl (tN (tS ?_))));refine tB ?_;refine tS (tO ?_)
   refine tR 1 rfl ?_;refine tC rfl rfl (hn) rfl rfl rfl rfl rfl rfl ?_;refine tR 1 rfl (tN ?_)
   refine AI (t:=false) rfl (fun h=>nomatch h) (fun _=>?_);refine tS (tO (tR 1 rfl ?_))
   refine tC rfl rfl (hm) rfl rfl rfl rfl rfl rfl ?_;refine tR 1 rfl (tN ?_)
   refine AI (t:=true) rfl (fun _=>?_) (fun h=>nomatch h);refine tS (tO (tR 1 rfl (tN ?_)))
   exact tT (AS rfl ⟨_,fzO rfl⟩)
 rw [decide_eq_false c2] at hi hm
 by_cases c3:fR w=0
 ·have k:fK w=0:=by unfold fK;rw [c3];cases fS w<;>rfl
  rw [k] at hz he
  rw [if_neg c2,if_neg c2,if_pos c3,if_pos c3]
  cases c1:fS w
  ·rw [c1] at hi hm hs
   refine Al (af:=AaJ) rfl rfl ?_
   refine tS (tO (tR 1 rfl (tN (tS ?_))));refine tB ?_;refine tS (tO ?_)
   refine tR 1 rfl ?_;refine tC rfl rfl (hn) rfl rfl rfl rfl rfl rfl ?_;refine tR 1 rfl (tN ?_)
   refine AI (t:=false) rfl (fun h=>nomatch h) (fun _=>?_);refine tS (tO (tR 1 rfl ?_))
   refine tC rfl rfl (hm) rfl rfl rfl rfl rfl rfl ?_;refine tR 1 rfl (tN ?_)
   refine AI (t:=false) rfl (fun h=>nomatch h) (fun _=>?_);refine tS (tO (tR 3 rfl (tN ?_)))
   rw [show (FloatKind.f64.format.order w 0 == some .lt)=false from hz]
   refine AI (t:=false) rfl (fun h=>nomatch h) (fun _=>?_);refine tS (tO (tR 3 rfl ?_))
   rw [show (FloatKind.f64.format.order w 0 == some .eq)=true from he]
   refine tR 1 rfl ?_;refine tC rfl rfl (hs) rfl rfl rfl rfl rfl rfl ?_;refine tR 2 rfl (tN ?_)
   refine AI (t:=false) rfl (fun h=>nomatch h) (fun _=>?_);refine tS (tO (tR 3 rfl (tN ?_)))
   rw [show (FloatKind.f64.format.order w 0 == some .eq)=true from he]
   refine AI (t:=true) rfl (fun _=>?_) (fun h=>nomatch h);refine tS (tO (tR 1 rfl (tN ?_)))
   exact tT (AS rfl ⟨_,fzO rfl⟩)
  ·rw [c1] at hi hm hs
   refine Al (af:=AaJ) rfl rfl ?_
   refine tS (tO (tR 1 rfl (tN (tS ?_))));refine tB ?_;refine tS (tO ?_)
   refine tR 1 rfl ?_;refine tC rfl rfl (hn) rfl rfl rfl rfl rfl rfl ?_;refine tR 1 rfl (tN ?_)
   refine AI (t:=false) rfl (fun h=>nomatch h) (fun _=>?_);refine tS (tO (tR 1 rfl ?_))
   refine tC rfl rfl (hm) rfl rfl rfl rfl rfl rfl ?_;refine tR 1 rfl (tN ?_)
   refine AI (t:=false) rfl (fun h=>nomatch h) (fun _=>?_);refine tS (tO (tR 3 rfl (tN ?_)))
   rw [show (FloatKind.f64.format.order w 0 == some .lt)=false from hz]
   refine AI (t:=false) rfl (fun h=>nomatch h) (fun _=>?_);refine tS (tO (tR 3 rfl ?_))
   rw [show (FloatKind.f64.format.order w 0 == some .eq)=true from he]
   refine tR 1 rfl ?_;refine tC rfl rfl (hs) rfl rfl rfl rfl rfl rfl ?_;refine tR 2 rfl (tN ?_)
   refine AI (t:=true) rfl (fun _=>?_) (fun h=>nomatch h);refine tS (tO (tR 1 rfl (tN ?_)))
   exact tT (AS rfl ⟨_,fzO rfl⟩)
 ·rw [if_neg c2,if_neg c2,if_neg c3,if_neg c3]
  cases c1:fS w
  ·rw [c1] at hi hm hs
   have k:¬ fK w<0∧¬ fK w=0:=by unfold fK;rw [c1];simp;omega
   rw [decide_eq_false k.1] at hz
   rw [decide_eq_false k.2] at he
   refine Al (af:=AaJ) rfl rfl ?_
   refine tS (tO (tR 1 rfl (tN (tS ?_))));refine tB ?_;refine tS (tO ?_)
   refine tR 1 rfl ?_;refine tC rfl rfl (hn) rfl rfl rfl rfl rfl rfl ?_;refine tR 1 rfl (tN ?_)
   refine AI (t:=false) rfl (fun h=>nomatch h) (fun _=>?_);refine tS (tO (tR 1 rfl ?_))
   refine tC rfl rfl (hm) rfl rfl rfl rfl rfl rfl ?_;refine tR 1 rfl (tN ?_)
   refine AI (t:=false) rfl (fun h=>nomatch h) (fun _=>?_);refine tS (tO (tR 3 rfl (tN ?_)))
   rw [show (FloatKind.f64.format.order w 0 == some .lt)=false from hz]
   refine AI (t:=false) rfl (fun h=>nomatch h) (fun _=>?_);refine tS (tO (tR 3 rfl ?_))
   rw [show (FloatKind.f64.format.order w 0 == some .eq)=false from he]
   refine tR 4 rfl (tN ?_);refine AI (t:=false) rfl (fun h=>nomatch h) (fun _=>?_);refine tS (tO ?_)
   refine tR 3 rfl (tN ?_)
   rw [show (FloatKind.f64.format.order w 0 == some .eq)=false from he]
   refine AI (t:=false) rfl (fun h=>nomatch h) (fun _=>?_);refine tS (tO (tR 1 rfl ?_))
   refine tC rfl rfl (hi) rfl rfl rfl rfl rfl rfl ?_;refine tR 1 rfl (tN ?_)
   refine AI (t:=false) rfl (fun h=>nomatch h) (fun _=>?_);refine tK (tS (tO (tR 1 rfl ?_)))
   refine tN ?_;exact tT (AS rfl ⟨_,fzO rfl⟩)
  ·rw [c1] at hi hm hs
   have k:fK w<0:=by unfold fK;rw [c1];simp;omega
   rw [decide_eq_true k] at hz
   refine Al (af:=AaJ) rfl rfl ?_
   refine tS (tO (tR 1 rfl (tN (tS ?_))));refine tB ?_;refine tS (tO ?_)
   refine tR 1 rfl ?_;refine tC rfl rfl (hn) rfl rfl rfl rfl rfl rfl ?_;refine tR 1 rfl (tN ?_)
   refine AI (t:=false) rfl (fun h=>nomatch h) (fun _=>?_);refine tS (tO (tR 1 rfl ?_))
   refine tC rfl rfl (hm) rfl rfl rfl rfl rfl rfl ?_;refine tR 1 rfl (tN ?_)
   refine AI (t:=false) rfl (fun h=>nomatch h) (fun _=>?_);refine tS (tO (tR 3 rfl (tN ?_)))
   rw [show (FloatKind.f64.format.order w 0 == some .lt)=true from hz]
   refine AI (t:=true) rfl (fun _=>?_) (fun h=>nomatch h);refine tS (tO (tR 1 rfl (tN ?_)))
   exact tT (AS rfl ⟨_,fzO rfl⟩)
def cmpI (x y:Int):Int:=if x<y then -1 else if y<x then 1 else 0
theorem Atb (x:Int):Ak APg Adl [.int .i64 x] (.bool false):=by
 have h:(x != x)=false:=by simp
 rw [←h]
 refine Al (af:=Adq) rfl rfl ?_
 refine tS (tO (tR 1 rfl (tN (tS (tO (tR 4 rfl ?_))))))
 refine tN ?_;exact tT (AS rfl ⟨_,fzO rfl⟩)
theorem Ayd (x y:Int):Ak APg Aes [.int .i64 x,.int .i64 y] (.int .i64 (cmpI x y)):=by
 have h1:=Atb x
 have h2:=Atb y
 unfold cmpI
 refine Al (af:=Acj) rfl rfl ?_
 refine tS (tO (tR 1 rfl (tN (tS (tO (tR 1 rfl ?_))))))
 refine tC rfl rfl (h1) rfl rfl rfl rfl rfl rfl ?_;refine tR 1 rfl (tN (tS (tO ?_)))
 refine tR 1 rfl ?_;refine tC rfl rfl (h2) rfl rfl rfl rfl rfl rfl ?_;refine tR 1 rfl (tN (tS ?_))
 refine tS (tO (tR 1 rfl (tN ?_)));refine AI (t:=false) rfl (fun h=>nomatch h) (fun _=>?_)
 refine tK (tS (tS (tO (tR 1 rfl (tN ?_)))))
 refine AI (t:=false) rfl (fun h=>nomatch h) (fun _=>?_);refine tK (tS (tS (tO ?_)))
 refine tR 3 rfl (tN ?_)
 refine tQ rfl decide_eq_true_iff (fun h=>?_) (fun h=>?_)
 ·rw [if_pos h];(refine tS (tO (tR 1 rfl (tN ?_)));exact tT (AS rfl ⟨_,fzO rfl⟩))
 rw [if_neg h]
 refine tK (tS (tS (tO (tR 3 rfl (tN ?_)))))
 refine tQ rfl decide_eq_true_iff (fun h=>?_) (fun h=>?_)
 ·rw [if_pos h];(refine tS (tO (tR 1 rfl (tN ?_)));exact tT (AS rfl ⟨_,fzO rfl⟩))
 rw [if_neg h]
 refine tK (tS (tO (tR 1 rfl (tN ?_))));exact tT (AS rfl ⟨_,fzO rfl⟩)
theorem Aye (x y:Nat) (hx:W64 x) (hy:W64 y) (nx:fN x=false) (ny:fN y=false):Ak APg AcA [fl x,fl y] (.int .i64 (cmpI (fK x) (fK y))):=by
 have h1:=Avw x hx
 have h2:=Avw y hy
 have hl:=fo_lt hx hy
 have hg:=Bbd hx hy
 rw [nx] at h1 hl hg
 rw [ny] at h2 hl hg
 unfold cmpI
 refine Al (af:=AaX) rfl rfl ?_
 refine tS (tO (tR 1 rfl (tN (tS (tO (tR 1 rfl ?_))))))
 refine tC rfl rfl (h1) rfl rfl rfl rfl rfl rfl ?_;refine tR 1 rfl (tN (tS (tO ?_)))
 refine tR 1 rfl ?_;refine tC rfl rfl (h2) rfl rfl rfl rfl rfl rfl ?_;refine tR 1 rfl (tN (tS ?_))
 refine tS (tO (tR 1 rfl (tN ?_)));refine AI (t:=false) rfl (fun h=>nomatch h) (fun _=>?_)
 refine tK (tS (tS (tO (tR 1 rfl (tN ?_)))))
 refine AI (t:=false) rfl (fun h=>nomatch h) (fun _=>?_);refine tK (tS (tS (tO ?_)))
 refine tR 3 rfl (tN ?_)
 rw [show (FloatKind.f64.format.order x y == some .lt)=decide (fK x<fK y) from hl]
 refine tQ rfl decide_eq_true_iff (fun h=>?_) (fun h=>?_)
 ·rw [if_pos h];(refine tS (tO (tR 1 rfl (tN ?_)));exact tT (AS rfl ⟨_,fzO rfl⟩))
 rw [if_neg h]
 refine tK (tS (tS (tO (tR 3 rfl (tN ?_)))))
 rw [show (FloatKind.f64.format.order x y == some .gt)=decide (fK y<fK x) from hg]
 refine tQ rfl decide_eq_true_iff (fun h=>?_) (fun h=>?_)
 ·rw [if_pos h];(refine tS (tO (tR 1 rfl (tN ?_)));exact tT (AS rfl ⟨_,fzO rfl⟩))
 rw [if_neg h]
 refine tK (tS (tO (tR 1 rfl (tN ?_))));exact tT (AS rfl ⟨_,fzO rfl⟩)
def cmpF (a b:Nat):Int:=cmpI (fT a) (fT b)
theorem Alo (w:Nat):(fN w=true∧kd w=0∧fT w = -18446744073709551616)∨(fN w=false∧((kd w=1∧fT w = -9218868437227405313∧fK w = -9218868437227405312) ∨
 (kd w=2∧fT w=fK w - 1∧fK w<0 ∧ -9218868437227405312<fK w)∨(kd w=3∧fT w = -1∧fK w=0)∨(kd w=4∧fT w=0∧fK w=0) ∨
 (kd w=5∧fT w=fK w∧0<fK w∧fK w<9218868437227405312)∨(kd w=6∧fT w=9218868437227405312∧fK w=9218868437227405312))):=by
 have hR:=fR_lt w
 unfold kd fT fK
 cases h:fN w
 ·refine .inr ⟨rfl,?_⟩
  have h2:¬ infR<fR w:=by unfold fN at h;simpa using h
  unfold infR at *
  cases fS w<;>simp only [Bool.false_eq_true,if_false,if_true]
  ·by_cases c1:fR w=9218868437227405312
   ·rw [c1];simp
   ·by_cases c2:fR w=0
    ·rw [c2];simp
    ·simp only [if_neg c1,if_neg c2];simp;omega
  ·by_cases c1:fR w=9218868437227405312
   ·rw [c1];simp
   ·by_cases c2:fR w=0
    ·rw [c2];simp
    ·simp only [if_neg c1,if_neg c2];simp;omega
 ·exact .inl ⟨rfl,rfl,rfl⟩
theorem Anb {x y:Int} (h:x<y):cmpI x y = -1:=if_pos h
theorem AjT {x y:Int} (h:y<x):cmpI x y=1:=by unfold cmpI;rw [if_neg (by omega),if_pos h]
theorem ArN {x y:Int} (h:x=y):cmpI x y=0:=by unfold cmpI;rw [if_neg (by omega),if_neg (by omega)]
theorem AyT (a b:Nat):cmpF a b=if cmpI (kd a) (kd b)≠0 then cmpI (kd a) (kd b) else if kd a=0 then 0 else cmpI (fK a) (fK b):=by
 unfold cmpF
 rcases Alo a with⟨_,h1,h2⟩ | ⟨_,ha⟩
 ·rcases Alo b with⟨_,g1,g2⟩ | ⟨_,hb⟩
  ·rw [h1,h2,g1,g2,ArN rfl,ArN rfl];rfl
  ·rw [Anb (by omega),Anb (by omega:(kd a:Int)<kd b)];rfl
 ·rcases Alo b with⟨_,g1,g2⟩ | ⟨_,hb⟩
  ·rw [AjT (by omega),AjT (by omega:(kd b:Int)<kd a)];rfl
  ·rw [if_neg (by omega:¬ kd a=0)]
   rcases Nat.lt_trichotomy (kd a) (kd b) with h | h | h
   ·rw [Anb (by omega),Anb (by omega:(kd a:Int)<kd b)];rfl
   ·rw [ArN (by omega:(kd a:Int)=kd b),if_neg (by decide)]
    have e1:fT a<fT b↔fK a<fK b:=by omega
    have e2:fT b<fT a↔fK b<fK a:=by omega
    unfold cmpI
    simp only [e1,e2]
   ·rw [AjT (by omega),AjT (by omega:(kd b:Int)<kd a)];rfl
theorem kd0 (w:Nat):(kd w=0)↔fN w=true:=by
 rcases Alo w with⟨h,h1,_⟩ | ⟨h,h1⟩
 ·rw [h,h1];simp
 ·rw [h];simp;omega
theorem AkR (a b:Nat) (ha:W64 a) (hb:W64 b):Ak APg Aan [fl a,fl b] (.int .i64 (cmpF a b)):=by
 have h1:=kind_ok a ha
 have h2:=kind_ok b hb
 have h3:=Ayd (kd a) (kd b)
 rw [AyT]
 refine Al (af:=Akc) rfl rfl ?_
 refine tS (tO (tR 1 rfl (tN (tS (tS (tO ?_))))))
 refine tR 1 rfl ?_;refine tC rfl rfl (h1) rfl rfl rfl rfl rfl rfl ?_;refine tR 1 rfl ?_
 refine tC rfl rfl (h2) rfl rfl rfl rfl rfl rfl ?_;refine tC rfl rfl (h3) rfl rfl rfl rfl rfl rfl ?_;refine tR 1 rfl ?_
 refine tN (tS (tO (tR 2 rfl (tN ?_))))
 refine tQ rfl bne_iff_ne (fun h=>?_) (fun h=>tK ?_)
 ·rw [if_pos h];(refine tS (tO (tR 2 rfl (tN ?_)));exact tT (AS rfl ⟨_,fzO rfl⟩))
 rw [if_neg h]
 refine tS (tS (tO (tR 1 rfl ?_)));refine tC rfl rfl (h1) rfl rfl rfl rfl rfl rfl ?_
 refine tR 1 rfl (tN ?_)
 refine tQ rfl beq_iff_eq (fun g=>?_) (fun g=>tK ?_)
 ·rw [if_pos (by omega)];(refine tS (tO (tR 1 rfl (tN ?_)));exact tT (AS rfl ⟨_,fzO rfl⟩))
 rw [if_neg (by omega)]
 have n1:fN a=false:=by
  cases h:fN a
  ·rfl
  ·exact absurd ((kd0 a).2 h) (by omega)
 have n2:fN b=false:=by
  cases h':fN b
  ·rfl
  ·have:=(kd0 b).2 h'
   rw [this] at h
   exact absurd (show cmpI (kd a) ((0:Nat):Int)≠0 by rw [AjT (by omega)];decide) h
 have h4:=Aye a b ha hb n1 n2
 refine tS (tO (tR 2 rfl ?_));refine tC rfl rfl (h4) rfl rfl rfl rfl rfl rfl ?_;refine tR 1 rfl ?_
 refine tN ?_;exact tT (AS rfl ⟨_,fzO rfl⟩)
def sameF (a b:Nat):Bool:=decide (fT a=fT b)
end Go.Eng.Ga
namespace Go.Eng.Ga
open Go Go.Eng
variable [Inhabited GlobT]
attribute [local irreducible] OpR TL TD TC TS Ak
theorem Apl {w:Nat} (hw:W64 w):(FloatKind.f64.format.order w w != some .eq)=fN w:=by rw [fo_ne hw hw];simp
theorem fo_zg (w:Nat) (hw:W64 w):(FloatKind.f64.format.order w 0 == some .gt)=(!fN w && decide (0<fK w)):=by
 have h1:fN 0=false:=by decide
 have h2:fK 0=0:=by decide
 rw [Bbd hw (by omega),h1,h2]
 simp
theorem dbl {w:Nat} (hw:W64 w) (hn:fN w=false) (h0:fR w≠0):∃ v,abin .add (fl w) (fl w)=some (fl v)∧(FloatKind.f64.format.order v w == some .eq)=decide (fR w=infR):=by
 obtain⟨r,h1,h2,h3,h4⟩:=add_self hw hn
 refine⟨_,show afltop .add .f64 w w=_ by unfold afltop;rw [h1];rfl,?_⟩
 rw [fo_eq (fword_lt h2) hw,fN_word h2,hn]
 simp only [Bool.not_false,Bool.true_and]
 refine decide_eq_decide.2 ?_
 unfold fK
 rw [fS_word h2,fR_word h2]
 cases fS w<;>simp<;>omega
theorem Bcd {w:Nat} (hw:W64 w) (h:fR w=0):w=if fS w then 9223372036854775808 else 0:=by
 unfold fR at h
 unfold W64 at hw
 unfold fS
 split
 ·rename_i c;simp at c;omega
 ·rename_i c;simp at c;omega
theorem AyQ (w:Nat) (hw:W64 w):Ak APg Ajx [fl w] (.int .i64 (kd w:Int)):=by
 have hn:=Apl hw
 obtain⟨hz,he⟩:=fo_z w hw
 have hg:=fo_zg w hw
 unfold kd
 by_cases c0:fN w=true
 ·rw [c0] at hn ⊢
  refine Al (af:=Ach) rfl rfl ?_
  refine tS (tO (tR 1 rfl (tN (tS (tS (tO ?_))))))
  refine tR 3 rfl (tN ?_)
  rw [hn]
  refine AI (t:=true) rfl (fun _=>?_) (fun h=>nomatch h);refine tS (tO (tR 1 rfl (tN ?_)))
  exact tT (AS rfl ⟨_,fzO rfl⟩)
 have c0:fN w=false:=by simpa using c0
 rw [c0] at hn hz he hg ⊢
 by_cases c3:fR w=0
 ·have k:fK w=0:=by unfold fK;rw [c3];cases fS w<;>rfl
  have i0:¬ fR w=infR:=by rw [c3];decide
  rw [k] at hz hg
  have hw0:=Bcd hw c3
  rw [if_neg i0,if_neg i0,if_pos c3,if_pos c3]
  cases c1:fS w
  ·rw [c1] at hw0
   have hw0:w=0:=hw0
   have hq:abin .quo (.flt .f64 4607182418800017408) (fl w)=some (fl 9218868437227405312):=by rw [hw0];kernel_rfl
   refine Al (af:=Ach) rfl rfl ?_
   refine tS (tO (tR 1 rfl (tN (tS (tS (tO ?_))))))
   refine tR 3 rfl (tN ?_)
   rw [hn]
   refine AI (t:=false) rfl (fun h=>nomatch h) (fun _=>?_);refine tK (tS (tS (tO ?_)))
   refine tR 2 rfl (tN ?_)
   rw [show (FloatKind.f64.format.order w 0 == some .lt)=false from hz]
   refine AI (t:=false) rfl (fun h=>nomatch h) (fun _=>?_);refine tK (tS (tS (tO ?_)))
   refine tR 2 rfl (tN ?_)
   rw [show (FloatKind.f64.format.order w 0 == some .gt)=false from hg]
   refine AI (t:=false) rfl (fun h=>nomatch h) (fun _=>?_);refine tK (tS (tS (tO ?_)))
   refine tR 1 rfl ?_
   refine tP (oB (v:=fl 9218868437227405312) rfl rfl hq) rfl rfl rfl rfl ?_
   refine tR 1 rfl (tN ?_);refine AI (t:=false) rfl (fun h=>nomatch h) (fun _=>?_);refine tK (tS ?_)
   refine tO (tR 1 rfl (tN ?_));exact tT (AS rfl ⟨_,fzO rfl⟩)
  ·rw [c1] at hw0
   have hw0:w=9223372036854775808:=hw0
   have hq:abin .quo (.flt .f64 4607182418800017408) (fl w)=some (fl 18442240474082181120):=by rw [hw0];kernel_rfl
   refine Al (af:=Ach) rfl rfl ?_
   refine tS (tO (tR 1 rfl (tN (tS (tS (tO ?_))))))
   refine tR 3 rfl (tN ?_)
   rw [hn]
   refine AI (t:=false) rfl (fun h=>nomatch h) (fun _=>?_);refine tK (tS (tS (tO ?_)))
   refine tR 2 rfl (tN ?_)
   rw [show (FloatKind.f64.format.order w 0 == some .lt)=false from hz]
   refine AI (t:=false) rfl (fun h=>nomatch h) (fun _=>?_);refine tK (tS (tS (tO ?_)))
   refine tR 2 rfl (tN ?_)
   rw [show (FloatKind.f64.format.order w 0 == some .gt)=false from hg]
   refine AI (t:=false) rfl (fun h=>nomatch h) (fun _=>?_);refine tK (tS (tS (tO ?_)))
   refine tR 1 rfl ?_
   refine tP (oB (v:=fl 18442240474082181120) rfl rfl hq) rfl rfl rfl rfl ?_
   refine tR 1 rfl (tN ?_);refine AI (t:=true) rfl (fun _=>?_) (fun h=>nomatch h);refine tS (tO ?_)
   refine tR 1 rfl (tN ?_);exact tT (AS rfl ⟨_,fzO rfl⟩)
 ·obtain⟨v,hd,hq⟩:=dbl hw c0 c3
  rw [if_neg c3,if_neg c3]
  cases c1:fS w
  ·have k:¬ fK w<0∧0<fK w:=by unfold fK;rw [c1];simp;omega
   rw [decide_eq_false k.1] at hz
   rw [decide_eq_true k.2] at hg
   refine Al (af:=Ach) rfl rfl ?_
   refine tS (tO (tR 1 rfl (tN (tS (tS (tO ?_))))))
   refine tR 3 rfl (tN ?_)
   rw [hn]
   refine AI (t:=false) rfl (fun h=>nomatch h) (fun _=>?_);refine tK (tS (tS (tO ?_)))
   refine tR 2 rfl (tN ?_)
   rw [show (FloatKind.f64.format.order w 0 == some .lt)=false from hz]
   refine AI (t:=false) rfl (fun h=>nomatch h) (fun _=>?_);refine tK (tS (tS (tO ?_)))
   refine tR 2 rfl (tN ?_)
   rw [show (FloatKind.f64.format.order w 0 == some .gt)=true from hg]
   refine AI (t:=true) rfl (fun _=>?_) (fun h=>nomatch h);refine tS (tS (tO (tR 2 rfl ?_)))
   refine tP (oB (v:=fl v) rfl rfl hd) rfl rfl rfl rfl ?_
   refine tR 2 rfl (tN ?_)
   rw [hq]
   refine tQ rfl decide_eq_true_iff (fun h=>?_) (fun h=>tK ?_)
   ·rw [if_pos h,if_pos h]
    refine tS (tO (tR 1 rfl (tN ?_)));exact tT (AS rfl ⟨_,fzO rfl⟩)
   ·rw [if_neg h,if_neg h]
    refine tS (tO (tR 1 rfl (tN ?_)));exact tT (AS rfl ⟨_,fzO rfl⟩)
  ·have k:fK w<0:=by unfold fK;rw [c1];simp;omega
   rw [decide_eq_true k] at hz
   refine Al (af:=Ach) rfl rfl ?_
   refine tS (tO (tR 1 rfl (tN (tS (tS (tO ?_))))))
   refine tR 3 rfl (tN ?_)
   rw [hn]
   refine AI (t:=false) rfl (fun h=>nomatch h) (fun _=>?_);refine tK (tS (tS (tO ?_)))
   refine tR 2 rfl (tN ?_)
   rw [show (FloatKind.f64.format.order w 0 == some .lt)=true from hz]
   refine AI (t:=true) rfl (fun _=>?_) (fun h=>nomatch h);refine tS (tS (tO (tR 2 rfl ?_)))
   refine tP (oB (v:=fl v) rfl rfl hd) rfl rfl rfl rfl ?_
   refine tR 2 rfl (tN ?_)
   rw [hq]
   refine tQ rfl decide_eq_true_iff (fun h=>?_) (fun h=>tK ?_)
   ·rw [if_pos h]
    refine tS (tO (tR 1 rfl (tN ?_)));exact tT (AS rfl ⟨_,fzO rfl⟩)
   ·rw [if_neg h]
    refine tS (tO (tR 1 rfl (tN ?_)));exact tT (AS rfl ⟨_,fzO rfl⟩)
theorem rcmp_ok (a b:Nat) (ha:W64 a) (hb:W64 b):Ak APg AmF [fl a,fl b] (.int .i64 (cmpF a b)):=by
 have h1:=AyQ a ha
 have h2:=AyQ b hb
 have hl:=fo_lt ha hb
 have hg:=Bbd ha hb
 rw [AyT]
 rcases Nat.lt_trichotomy (kd a) (kd b) with h | h | h
 ·rw [Anb (by omega),if_pos (by decide)]
  refine Al (af:=AfR) rfl rfl ?_
  refine tS (tO (tR 1 rfl (tN (tS (tO (tR 1 rfl ?_))))))
  refine tC rfl rfl (h1) rfl rfl rfl rfl rfl rfl ?_;refine tR 1 rfl ?_;refine tC rfl rfl (h2) rfl rfl rfl rfl rfl rfl ?_
  refine tR 2 rfl (tN (tS (tS (tO (tR 4 rfl ?_)))))
  rw [show decide ((kd a:Int)<(kd b:Int))=true from decide_eq_true (by omega)]
  refine tR 9 rfl (tN ?_);refine AI (t:=true) rfl (fun _=>?_) (fun h=>nomatch h);refine tS (tO ?_)
  refine tR 1 rfl (tN ?_);exact tT (AS rfl ⟨_,fzO rfl⟩)
 ·rw [ArN (by omega),if_neg (by decide)]
  rw [h]
  rw [h] at h1
  refine Al (af:=AfR) rfl rfl ?_
  refine tS (tO (tR 1 rfl (tN (tS (tO (tR 1 rfl ?_))))))
  refine tC rfl rfl (h1) rfl rfl rfl rfl rfl rfl ?_;refine tR 1 rfl ?_;refine tC rfl rfl (h2) rfl rfl rfl rfl rfl rfl ?_
  refine tR 2 rfl (tN (tS (tS (tO (tR 4 rfl ?_)))))
  rw [show decide ((kd b:Int)<(kd b:Int))=false from decide_eq_false (by omega)]
  refine tR 4 rfl ?_
  rw [show ((kd b:Int) == (kd b:Int))=true from beq_self_eq_true _]
  refine tR 5 rfl (tN ?_)
  by_cases c0:kd b=0
  ·have n1:=(kd0 a).1 (by omega)
   have n2:=(kd0 b).1 c0
   rw [n1] at hl hg
   rw [if_pos c0]
   rw [show (FloatKind.f64.format.order a b == some .lt)=false from hl]
   refine AI (t:=false) rfl (fun h=>nomatch h) (fun _=>?_);refine tK (tS (tS (tO ?_)))
   refine tR 4 rfl ?_
   rw [show decide ((kd b:Int)>(kd b:Int))=false from decide_eq_false (by omega)]
   refine tR 4 rfl (tN ?_)
   rw [show (FloatKind.f64.format.order a b == some .gt)=false from hg]
   refine AI (t:=false) rfl (fun h=>nomatch h) (fun _=>?_);refine tK (tS (tO (tR 1 rfl ?_)))
   refine tN ?_;exact tT (AS rfl ⟨_,fzO rfl⟩)
  ·have n1:fN a=false:=by
    cases g:fN a
    ·rfl
    ·exact absurd ((kd0 a).2 g) (by omega)
   have n2:fN b=false:=by
    cases g:fN b
    ·rfl
    ·exact absurd ((kd0 b).2 g) (by omega)
   rw [n1,n2] at hl hg
   rw [if_neg c0]
   rw [show (FloatKind.f64.format.order a b == some .lt)=decide (fK a<fK b) from hl]
   unfold cmpI
   refine tQ rfl decide_eq_true_iff (fun g=>?_) (fun g=>tK ?_)
   ·rw [if_pos g];(refine tS (tO (tR 1 rfl (tN ?_)));exact tT (AS rfl ⟨_,fzO rfl⟩))
   rw [if_neg g]
   refine tS (tS (tO (tR 4 rfl ?_)))
   rw [show decide ((kd b:Int)>(kd b:Int))=false from decide_eq_false (by omega)]
   refine tR 4 rfl (tN ?_)
   rw [show (FloatKind.f64.format.order a b == some .gt)=decide (fK b<fK a) from hg]
   refine tQ rfl decide_eq_true_iff (fun g=>?_) (fun g=>tK ?_)
   ·rw [if_pos g];(refine tS (tO (tR 1 rfl (tN ?_)));exact tT (AS rfl ⟨_,fzO rfl⟩))
   rw [if_neg g]
   refine tS (tO (tR 1 rfl (tN ?_)));exact tT (AS rfl ⟨_,fzO rfl⟩)
 ·rw [AjT (by omega),if_pos (by decide)]
  refine Al (af:=AfR) rfl rfl ?_
  refine tS (tO (tR 1 rfl (tN (tS (tO (tR 1 rfl ?_))))))
  refine tC rfl rfl (h1) rfl rfl rfl rfl rfl rfl ?_;refine tR 1 rfl ?_;refine tC rfl rfl (h2) rfl rfl rfl rfl rfl rfl ?_
  refine tR 2 rfl (tN (tS (tS (tO (tR 4 rfl ?_)))))
  rw [show decide ((kd a:Int)<(kd b:Int))=false from decide_eq_false (by omega)]
  refine tR 4 rfl ?_
  rw [show ((kd a:Int) == (kd b:Int))=false from by simp;omega]
  refine tR 5 rfl (tN ?_);refine AI (t:=false) rfl (fun h=>nomatch h) (fun _=>?_);refine tK (tS ?_)
  refine tS (tO (tR 4 rfl ?_))
  rw [show decide ((kd a:Int)>(kd b:Int))=true from decide_eq_true (by omega)]
  refine tR 4 rfl (tN ?_);refine AI (t:=true) rfl (fun _=>?_) (fun h=>nomatch h);refine tS (tO ?_)
  refine tR 1 rfl (tN ?_);exact tT (AS rfl ⟨_,fzO rfl⟩)
end Go.Eng.Ga
namespace Go.Eng.Ga
open Go Go.Eng
variable [Inhabited GlobT]
attribute [local irreducible] OpR TL TD TC TS Ak
abbrev u6 (n:Nat):Zv := .int .u64 (n:Int)
abbrev en (E:List Nat):List (List Zv):=E.map fun w=>[fl w]
abbrev eu (C:List Nat):List (List Zv):=C.map fun n=>[u6 n]
@[simp] theorem AmQ (L:List Nat):Ao (en L)=true:=cLLm (fun _=>rfl) _
@[simp] theorem Alt (L:List Nat):Aab (en L)=true:=nLLm (fun _=>rfl) _
@[simp] theorem AmM (L:List Nat):Ao (eu L)=true:=cLLm (fun _=>rfl) _
abbrev gc (E C:List Nat) (n a lo hi:Nat):List Zv:=[.imm (en E),.imm (eu C),u6 n,u6 a,fl lo,fl hi]
abbrev gv (E C:List Nat) (n a lo hi:Nat):Zv := .agg (gc E C n a lo hi)
theorem Apz (x y:Nat) (h:x+y<18446744073709551616):Ak APg Aju [u6 x,u6 y] (u6 (x+y)):=by
 refine Al (af:=AjX) rfl rfl ?_
 refine tS (tO (tR 1 rfl (tN (tS (tS (tO ?_))))))
 refine tR 2 rfl ?_;refine tP (o_subu (a:=18446744073709551615) rfl rfl (by omega) (AaA (by omega))) rfl rfl rfl rfl ?_
 refine tR 1 rfl (tN ?_)
 refine tQ rfl decide_eq_true_iff (fun h=>?_) (fun h=>?_)
 ·exfalso;omega
 ·refine tK (tS (tO (tR 2 rfl ?_)));refine tP (Ait rfl rfl (AaA (by omega))) rfl rfl rfl rfl ?_
  refine tR 1 rfl (tN ?_);exact tT (AS rfl ⟨_,fzO rfl⟩)
theorem nan_ok:Ak APg AbB [] (fl 9221120237041090561):=by
 refine Al (af:=Akk) rfl rfl ?_
 refine tS (tO (tR 1 rfl (tN (tS (tO (tR 2 rfl ?_))))))
 refine tN ?_;exact tT (AS rfl ⟨_,fzO rfl⟩)
theorem inf_ok:Ak APg Apk [.int .i64 1] (fl infR):=by
 refine Al (af:=Akl) rfl rfl ?_
 refine tS (tO (tR 1 rfl (tN (tS (tO (tR 1 rfl ?_))))))
 refine tN (tS (tS (tO (tR 2 rfl (tN ?_)))))
 refine AI (t:=true) rfl (fun _=>?_) (fun h=>nomatch h);refine tO (tR 1 rfl (tN (tS ?_)))
 refine tO (tR 3 rfl (tN ?_));exact tT (AS rfl ⟨_,fzO rfl⟩)
theorem total_ok (E C:List Nat) (n a lo hi:Nat):Ak APg Adk [gv E C n a lo hi] (u6 a):=by
 refine Al (af:=Abs) rfl rfl ?_
 refine tS (tO (tR 2 rfl (tN (tS (tO (tR 3 rfl ?_))))))
 refine tN ?_;exact tT (AS rfl ⟨_,fzO rfl⟩)
def spanV (a lo hi:Nat):List Zv:=if a=0 then [fl 9221120237041090561,fl 9221120237041090561] else [fl lo,fl hi]
theorem span_ok (E C:List Nat) (n a lo hi:Nat):Ak APg AdK [gv E C n a lo hi] (.tuple (spanV a lo hi)):=by
 have h:=nan_ok
 unfold spanV
 refine Al (af:=AbU) rfl rfl ?_
 refine tS (tO (tR 3 rfl (tN (tS (tS (tO ?_))))))
 refine tR 3 rfl (tN ?_)
 refine tQ rfl beq_iff_eq (fun g=>?_) (fun g=>tK ?_)
 ·rw [if_pos (by omega)]
  refine tS (tO ?_);refine tC rfl rfl (h) rfl rfl rfl rfl rfl rfl ?_;refine tC rfl rfl (h) rfl rfl rfl rfl rfl rfl ?_
  refine tR 2 rfl (tN ?_);exact tT (AS rfl ⟨_,fzO rfl⟩)
 ·rw [if_neg (by omega)]
  refine tS ?_;refine tD0 rfl ?_;refine dR 6 rfl (dN ?_);refine⟨rfl,?_⟩;exact tT (AS rfl ⟨_,fzO rfl⟩)
end Go.Eng.Ga
namespace Go.Eng.Ga
open Go Go.Eng
variable [Inhabited GlobT]
attribute [local irreducible] OpR TL TD TC TS Ak
structure OkE (E:List Nat):Prop where
 w:∀ x∈E,W64 x
 n:∀ x∈E,fN x=false
 s:∀ i j,i<j→j<E.length→fT (E.getD i 0)<fT (E.getD j 0)
theorem OkE.g {E:List Nat} (h:OkE E) (i:Nat):W64 (E.getD i 0):=by
 rw [List.getD_eq_getElem?_getD]
 cases hi:E[i]? with
 | none=>simp
 | some x=>exact h.w x (List.mem_of_getElem? hi)
def stepN (E:List Nat) (x:Nat):Nat:=E.findIdx fun e=>decide (fT x≤fT e)
theorem ApL (E:List Nat) (x:Nat):stepN E x≤E.length:=List.findIdx_le_length
theorem ApM {E:List Nat} {x i:Nat} (hi:i≤E.length) (h1:∀ k,k<i→fT (E.getD k 0)<fT x) (h2:i<E.length→fT x≤fT (E.getD i 0)):stepN E x=i:=by
 unfold stepN
 have hg:∀ k (hk:k<E.length),E.getD k 0=E[k]:=fun k hk=>by simp [List.getD_eq_getElem?_getD,hk]
 rcases Nat.lt_or_ge i E.length with h | h
 ·refine(List.findIdx_eq h).2 ⟨?_,?_⟩
  ·rw [←hg i h];exact decide_eq_true (h2 h)
  ·intro j hj
   rw [←hg j (by omega)];exact decide_eq_false (by have:=h1 j hj;omega)
 ·have:i=E.length:=by omega
  subst this
  refine List.findIdx_eq_length.2 fun e he=>?_
  obtain⟨k,hk,rfl⟩:=List.getElem_of_mem he
  rw [←hg k hk]
  have:=h1 k hk
  exact decide_eq_false (by omega)
theorem shr1 (n:Nat):abin .shr (.int .u64 (n:Int)) (.int .u64 1)=some (.int .u64 ((n / 2:Nat):Int)):=by
 have h:IntKind.bits .u64=64:=rfl
 show Anw .shr .u64 (n:Int) 1=_
 unfold Anw
 rw [if_neg (by decide)]
 simp only [h]
 rw [show ((1:Int).toNat)=1 from rfl,show min 1 64=1 from rfl,Int.fdiv_eq_ediv_of_nonneg _ (by decide)]
 rfl
theorem Ayg {a b:Nat}:decide (cmpF a b<0)=decide (fT a<fT b):=by
 unfold cmpF cmpI
 refine decide_eq_decide.2 ?_
 split
 ·simp;assumption
 ·split<;>simp<;>omega
theorem OkE.m {E:List Nat} (h:OkE E) {i j:Nat} (hij:i≤j) (hj:j<E.length):fT (E.getD i 0)≤fT (E.getD j 0):=by
 rcases Nat.lt_or_ge i j with g | g
 ·exact Int.le_of_lt (h.s i j g hj)
 ·have:i=j:=by omega
  subst this;exact Int.le_refl _
theorem bsf_ok (E:List Nat) (h:OkE E) (hl:E.length<4294967296) (x:Nat) (hx:W64 x) :
 ∃ b,Ak APg Aag [.imm (en E),fl x,.fn (.func Aan) [] []] (.tuple [.int .i64 (stepN E x:Int),.bool b]):=by
 have hc:∀ i,Ak APg Aan [fl (E.getD i 0),fl x] (.int .i64 (cmpF (E.getD i 0) x)):=fun i=>AkR _ _ (h.g i) hx
 have hle:(en E).length=E.length:=List.length_map _
 refine⟨if stepN E x<E.length then cmpF (E.getD (stepN E x) 0) x == 0 else false,?_⟩
 refine Al (af:=Aad) rfl rfl ?_
 refine tS (tO (tR 2 rfl (tN (tS (tO (tR 3 rfl ?_))))))
 refine tN (tS (tO (tR 3 rfl (tN (tS ?_)))))
 refine tB (lST (σ:=Nat × Nat) (fun s=>s.2 - s.1) (fun s=>[(0,.imm (en E)),(1,fl x),(2,.fn (.func Aan) [] []),(6,.int .i64 0),(7,.bool false),(8,.int .i64 ((en E).length:Int)),(9,.int .i64 (s.1:Int)),(10,.int .i64 (s.2:Int))])
  (fun s S=>s.1≤s.2∧s.2≤E.length∧(∀ k,k<s.1→fT (E.getD k 0)<fT x)∧∀ k,s.2≤k→k<E.length→fT x≤fT (E.getD k 0)) (0,(en E).length) (by (repeat' (first | exact wN | refine wC rfl ?_))) ⟨by omega,by omega,fun k hk=>absurd hk (by omega),fun k h1 h2=>by omega⟩ ?_)
 rintro⟨i,j⟩ S ⟨hij,hj,h1,h2⟩
 dsimp only at hij hj h1 h2 ⊢
 refine tS (tS (tO (tR 3 rfl (tN ?_))))
 refine tQ rfl decide_eq_true_iff (fun c=>tK ?_) (fun c=>tX ?_)
 ·have c:i<j:=by omega
  refine tB ?_;refine tS (tO (tR 2 rfl ?_));refine tP (oA rfl rfl (by omega)) rfl rfl rfl rfl ?_
  refine tP (Afv rfl (AaA (by omega))) rfl rfl rfl rfl ?_
  refine tP (oB rfl rfl (shr1 _)) rfl rfl rfl rfl ?_
  refine tP (Afv rfl (AcV (by omega))) rfl rfl rfl rfl ?_;refine tR 1 rfl (tN (tS (tO ?_)))
  refine tR 3 rfl ?_;refine tP (Bl rfl rfl (AQ (d:=0) (by omega)) rfl) rfl rfl rfl rfl ?_;refine tR 2 rfl ?_
  have hm:(i+j) / 2<E.length:=by omega
  have hcm:=hc ((i+j) / 2)
  refine AhR rfl rfl rfl hcm rfl rfl rfl rfl rfl rfl ?_
  refine tR 1 rfl (tN ?_)
  rw [Ayg]
  refine tQ rfl decide_eq_true_iff (fun g=>?_) (fun g=>?_)
  ·refine tO (tR 1 rfl ?_);refine tP (oA (b:=1) rfl rfl (by omega)) rfl rfl rfl rfl ?_;refine tR 1 rfl ?_
   refine tN ?_
   refine⟨((i+j) / 2+1,j),by simp only;omega,by (repeat' (first | exact wN | refine wC rfl ?_)),by simp only;omega,by simp only;omega,?_,h2⟩
   intro k hk
   have:=h.m (i:=k) (j:=(i+j) / 2) (by simp only at hk;omega) hm
   omega
  ·refine tO (tR 2 rfl (tN ?_))
   refine⟨(i,(i+j) / 2),by simp only;omega,by (repeat' (first | exact wN | refine wC rfl ?_)),by simp only;omega,by simp only;omega,h1,?_⟩
   intro k hk hk2
   have:=h.m (i:=(i+j) / 2) (j:=k) hk hk2
   omega
 ·have c:i=j:=by omega
  subst c
  have e:=ApM hj h1 (fun hi=>h2 i (Nat.le_refl _) hi)
  rw [e]
  by_cases hi:i<E.length
  ·have hci:=hc i
   rw [if_pos hi]
   refine tS (tO (tR 5 rfl ?_))
   rw [show decide ((i:Int)<((en E).length:Int))=true from decide_eq_true (by omega)]
   refine tR 3 rfl ?_;refine tP (Bl rfl rfl (AQ (d:=0) (by omega)) rfl) rfl rfl rfl rfl ?_;refine tR 2 rfl ?_
   refine AhR rfl rfl rfl hci rfl rfl rfl rfl rfl rfl ?_
   refine tR 4 rfl (tN ?_);exact tT (AS rfl ⟨_,fzO rfl⟩)
  ·rw [if_neg hi]
   refine tS (tO (tR 5 rfl ?_))
   rw [show decide ((i:Int)<((en E).length:Int))=false from decide_eq_false (by omega)]
   refine tR 6 rfl ?_
   refine AlG rfl rfl ?_
   refine tR 4 rfl (tN ?_);exact tT (AS rfl ⟨_,fzO rfl⟩)
end Go.Eng.Ga
namespace Go.Eng.Ga
open Go Go.Eng
variable [Inhabited GlobT]
attribute [local irreducible] OpR TL TD TC TS Ak
theorem AvI (E C:List Nat) (n a lo hi:Nat) (h:OkE E) (hl:E.length<4294967296) (x:Nat) (hx:W64 x):Ak APg AdJ [gv E C n a lo hi,fl x] (.int .i64 (stepN E x:Int)):=by
 obtain⟨b,hb⟩:=bsf_ok E h hl x hx
 refine Al (af:=AbT) rfl rfl ?_
 refine tS (tO (tR 2 rfl (tN (tS (tO (tR 3 rfl ?_))))))
 refine tC rfl (by simp [Zv.closed,Aj,Ao,cLm,cLLm]) (hb) (by simp [Zv.noref,Zv.flat,norefL,Aab,nLm,nLLm]) rfl rfl rfl rfl rfl ?_
 refine tR 5 rfl (tN (tS (tO (tR 2 rfl (tN ?_)))))
 exact tT (AS rfl ⟨_,fzO rfl⟩)
def minF (a b:Nat):Nat:=if fT b<fT a then b else a
def maxF (a b:Nat):Nat:=if fT a<fT b then b else a
theorem Ayf {a b:Nat}:decide (cmpF a b>0)=decide (fT b<fT a):=by
 unfold cmpF cmpI
 refine decide_eq_decide.2 ?_
 split
 ·simp;omega
 ·split<;>simp<;>omega
theorem BaT (a b:Nat) (ha:W64 a) (hb:W64 b):Ak APg AaC [.imm [[fl a],[fl b]],.fn (.func Aan) [] []] (fl (minF a b)):=by
 have hc:=AkR b a hb ha
 refine Al (af:=Aah) rfl rfl ?_
 refine tS (tO (tR 1 rfl (tN (tS (tS (tO ?_))))))
 refine tR 3 rfl (tN ?_);refine AI (t:=false) rfl (fun h=>nomatch h) (fun _=>?_);refine tK (tS ?_)
 refine tO (tR 4 rfl (tN (tS (tS (tO (tR 1 rfl ?_))))))
 refine tN ?_
 refine tB (Aal ?_)
 refine tS (tS (tO (tR 4 rfl (tN ?_))))
 refine AI (t:=true) rfl (fun _=>?_) (fun h=>nomatch h);refine tK (tS ?_);refine tB ?_;refine tS ?_
 refine tO (tR 6 rfl ?_)
 refine AhR rfl rfl rfl hc rfl rfl rfl rfl rfl rfl ?_
 refine tR 1 rfl (tN ?_)
 rw [Ayg]
 unfold minF
 refine tQ rfl decide_eq_true_iff (fun g=>?_) (fun g=>tK ?_)
 ·rw [if_pos g]
  refine tO (tR 5 rfl (tN (tO (tR 1 rfl ?_))))
  refine tP (oB (v := .int .i64 2) rfl rfl rfl) rfl rfl rfl rfl ?_;refine tR 1 rfl (tN ?_)
  refine Aal ?_
  refine tS (tS (tO (tR 4 rfl (tN ?_))))
  refine AI (t:=false) rfl (fun h=>nomatch h) (fun _=>?_);refine tX ?_;refine tS (tO (tR 2 rfl ?_))
  refine tN ?_;exact tT (AS rfl ⟨_,fzO rfl⟩)
 ·rw [if_neg g]
  refine tO (tR 1 rfl ?_);refine tP (oB (v := .int .i64 2) rfl rfl rfl) rfl rfl rfl rfl ?_;refine tR 1 rfl ?_
  refine tN ?_
  refine Aal ?_
  refine tS (tS (tO (tR 4 rfl (tN ?_))))
  refine AI (t:=false) rfl (fun h=>nomatch h) (fun _=>?_);refine tX ?_;refine tS (tO (tR 2 rfl ?_))
  refine tN ?_;exact tT (AS rfl ⟨_,fzO rfl⟩)
theorem BaU (a b:Nat) (ha:W64 a) (hb:W64 b):Ak APg AaD [.imm [[fl a],[fl b]],.fn (.func Aan) [] []] (fl (maxF a b)):=by
 have hc:=AkR b a hb ha
 refine Al (af:=Aai) rfl rfl ?_
 refine tS (tO (tR 1 rfl (tN (tS (tS (tO ?_))))))
 refine tR 3 rfl (tN ?_);refine AI (t:=false) rfl (fun h=>nomatch h) (fun _=>?_);refine tK (tS ?_)
 refine tO (tR 4 rfl (tN (tS (tS (tO (tR 1 rfl ?_))))))
 refine tN ?_
 refine tB (Aal ?_)
 refine tS (tS (tO (tR 4 rfl (tN ?_))))
 refine AI (t:=true) rfl (fun _=>?_) (fun h=>nomatch h);refine tK (tS ?_);refine tB ?_;refine tS ?_
 refine tO (tR 6 rfl ?_)
 refine AhR rfl rfl rfl hc rfl rfl rfl rfl rfl rfl ?_
 refine tR 1 rfl (tN ?_)
 rw [Ayf]
 unfold maxF
 refine tQ rfl decide_eq_true_iff (fun g=>?_) (fun g=>tK ?_)
 ·rw [if_pos g]
  refine tO (tR 5 rfl (tN (tO (tR 1 rfl ?_))))
  refine tP (oB (v := .int .i64 2) rfl rfl rfl) rfl rfl rfl rfl ?_;refine tR 1 rfl (tN ?_)
  refine Aal ?_
  refine tS (tS (tO (tR 4 rfl (tN ?_))))
  refine AI (t:=false) rfl (fun h=>nomatch h) (fun _=>?_);refine tX ?_;refine tS (tO (tR 2 rfl ?_))
  refine tN ?_;exact tT (AS rfl ⟨_,fzO rfl⟩)
 ·rw [if_neg g]
  refine tO (tR 1 rfl ?_);refine tP (oB (v := .int .i64 2) rfl rfl rfl) rfl rfl rfl rfl ?_;refine tR 1 rfl ?_
  refine tN ?_
  refine Aal ?_
  refine tS (tS (tO (tR 4 rfl (tN ?_))))
  refine AI (t:=false) rfl (fun h=>nomatch h) (fun _=>?_);refine tX ?_;refine tS (tO (tR 2 rfl ?_))
  refine tN ?_;exact tT (AS rfl ⟨_,fzO rfl⟩)
theorem least_ok (a b:Nat) (ha:W64 a) (hb:W64 b):Ak APg AkK [.imm [[fl a],[fl b]]] (fl (minF a b)):=by
 have h:=BaT a b ha hb
 refine Al (af:=AfN) rfl rfl ?_
 refine tS (tO (tR 1 rfl (tN (tS (tS (tO ?_))))))
 refine tR 3 rfl (tN ?_);refine AI (t:=false) rfl (fun h=>nomatch h) (fun _=>?_);refine tK (tS ?_)
 refine tO (tR 1 rfl ?_);refine tC rfl rfl (h) rfl rfl rfl rfl rfl rfl ?_;refine tR 1 rfl (tN ?_)
 exact tT (AS rfl ⟨_,fzO rfl⟩)
theorem most_ok (a b:Nat) (ha:W64 a) (hb:W64 b):Ak APg AmB [.imm [[fl a],[fl b]]] (fl (maxF a b)):=by
 have h:=BaU a b ha hb
 refine Al (af:=AhA) rfl rfl ?_
 refine tS (tO (tR 1 rfl (tN (tS (tS (tO ?_))))))
 refine tR 3 rfl (tN ?_);refine AI (t:=false) rfl (fun h=>nomatch h) (fun _=>?_);refine tK (tS ?_)
 refine tO (tR 1 rfl ?_);refine tC rfl rfl (h) rfl rfl rfl rfl rfl rfl ?_;refine tR 1 rfl (tN ?_)
 exact tT (AS rfl ⟨_,fzO rfl⟩)
def fillC (E C:List Nat):List Nat:=C++List.replicate (E.length+1 - C.length) 0
theorem AwJ (C:List Nat):(((eu C).take C.length).all fun r=>r.all An)=true:=by
 rw [List.all_eq_true]
 intro r hr
 obtain⟨n,-,rfl⟩:=List.mem_map.1 (List.mem_of_mem_take hr)
 rfl
theorem rows_eu (C:List Nat):Bq 1 (.imm (eu C)) = .ok (eu C):=by cases C<;>rfl
theorem AlH {N:Nat} {d:Option Nat} {args:List Ag} {g:Option (Nat × Bool)} {un:List Nat} {l:List Ae} {m:FM} {S:Ab} {K:FM→Ab→Prop} {E C:List Nat} {n a lo hi:Nat}
 (hE:E.length<4294967296) (hC:C.length≤E.length+1)
 (hd:(d.all fun d=>d<N)=true) (hg:gd m g=some true) (ha:los m args=some [gv E C n a lo hi])
 (h:TL APg N l (putM m d (.view (S.length+1) 0 (E.length+1) true)) (S++[some ⟨6,[gc E C n a lo hi]⟩]++[some ⟨1,eu (fillC E C)⟩]) K) :
 TL APg N (⟨d,.call (.c (.fn (.func AaE) [] [])) args,g,un⟩::l) m S K:=by
 refine tl_share (af:=Abf) hd hg ha rfl rfl rfl rfl rfl rfl rfl rfl ?_
 have hle:(en E).length=E.length:=List.length_map _
 refine tS (tO ?_);refine AH (o_box rfl rfl rfl rfl) rfl rfl rfl rfl ?_;refine tR 1 rfl (tN (tS ?_))
 refine tO (tR 1 rfl ?_);refine tP (BK rfl (Ax AW) rfl (Nat.le_of_ble_eq_true rfl) rfl) rfl rfl rfl rfl ?_
 refine tR 1 rfl ?_;refine tP (oA (b:=1) rfl rfl (by omega)) rfl rfl rfl rfl ?_
 refine AH (Azf rfl rfl (by omega) (by omega)) rfl rfl rfl rfl ?_;refine tR 1 rfl (tN (tS (tO ?_)))
 refine tR 2 rfl ?_
 rw [BN,BN]
 have h1:(S++[some ⟨6,[gc E C n a lo hi]⟩]++[some ⟨1,List.replicate ((en E).length+1) [u6 0]⟩])[S.length]?=some (some ⟨6,[gc E C n a lo hi]⟩):=AU AW
 refine tP (BK (v := .imm (eu C)) rfl h1 rfl (Nat.le_of_ble_eq_true rfl) rfl) rfl rfl rfl rfl ?_
 refine tP (Awh (rows:=List.replicate ((en E).length+1) [u6 0]) (ys:=eu C) (n:=C.length) rfl rfl (rows_eu C) AW (by simp;omega) (by simp) (AwJ C)) rfl rfl rfl rfl ?_
 rw [BN]
 have e:(List.replicate ((en E).length+1) [u6 0]).take 0++(eu C).take C.length++(List.replicate ((en E).length+1) [u6 0]).drop (0+C.length)=eu (fillC E C):=by
  simp [fillC,eu,List.take_of_length_le]
 rw [e]
 refine tN (tS (tO (tR 2 rfl (tN ?_))))
 refine tT ⟨.inr rfl,_,rfl,?_⟩
 have e2:(S++[some (⟨6,[Bn (gv E C n a lo hi)]⟩:ABlock)]).length=S.length+1:=List.length_append
 rw [e2,hle]
 exact h
end Go.Eng.Ga
namespace Go.Eng.Ga
open Go Go.Eng
variable [Inhabited GlobT]
attribute [local irreducible] OpR TL TD TC TS Ak
def bump (C:List Nat) (i:Nat):List Nat:=C.set i (C.getD i 0+1)
structure OkG (E C:List Nat) (n a lo hi:Nat):Prop where
 oe:OkE E
 el:E.length<4294967296
 oc:C=[]∨C.length=E.length+1
 on:n<4294967296
 oa:a<4294967296
 ca:∀ x∈C,x≤a
 ol:W64 lo
 oh:W64 hi
theorem addN_ok (E C:List Nat) (n a lo hi:Nat) (h:OkG E C n a lo hi) (x:Nat) (hx:W64 x) (hn:fN x=true):Ak APg Abd [gv E C n a lo hi,fl x] (gv E C (n+1) a lo hi):=by
 have h1:=Aix x hx
 rw [hn] at h1
 have h2:=Apz n 1 (by have:=h.on;omega)
 refine Al (af:=Aaj) rfl rfl ?_
 refine tS (tO (tR 2 rfl (tN (tS (tS (tO ?_))))))
 refine tR 1 rfl ?_;refine tC rfl rfl (h1) rfl rfl rfl rfl rfl rfl ?_;refine tN ?_
 refine AI (t:=true) rfl (fun _=>?_) (fun h=>nomatch h);refine tS (tO (tR 2 rfl ?_))
 refine tC rfl rfl (h2) rfl rfl rfl rfl rfl rfl ?_;refine tR 2 rfl (tN (tS (tO ?_)))
 refine tR 2 rfl (tN ?_);exact tT (AS rfl ⟨_,fzO (by simp [one,Bn,Zv.closed,Aj,cLm,cLLm])⟩)
theorem AtD {S:Ab} {E C:List Nat} {n a lo hi b len:Nat} {full:Bool} (h1:S[b]?=some (some ⟨1,eu C⟩)) (hl:len=C.length) :
 (frz (5+1) (.agg [.imm (en E),.view b 0 len full,u6 n,u6 a,fl lo,fl hi])).run S=some (gv E C n a lo hi,[b]):=by
 have hc:Aj [.imm (en E),.view b 0 len full,u6 n,u6 a,fl lo,fl hi]=false:=by simp [Aj,Zv.closed]
 refine Azz (i:=[b]) hc (Adh (i:=[]) (j:=[b]) (fzO (AmQ E)) ?_)
 exact Adh (i:=[b]) (j:=[]) (Aiz (blk:=⟨1,eu C⟩) h1 (by simpa using hl) (AmM C)) (Adi rfl)
theorem AvE (E C:List Nat) (n a lo hi:Nat) (h:OkG E C n a lo hi) (x:Nat) (hx:W64 x) :
 TC APg (max Aaj.nargs Aaj.N) Adm [(1,fl x),(2,.ptr 0 0 0),(4,.ptr 1 0 0)] [some ⟨6,[gc E C n a lo hi]⟩,some ⟨6,[[.nils,.nils,.int .u64 0,.int .u64 0,.flt .f64 0,.flt .f64 0]]⟩]
  fun ex m S=>(ex = .normal∨ex = .ret)∧∃ vs ids,Abx m S Aaj.res=some vs∧(frz Az (one vs)).run S=some (gv E (bump (fillC E C) (stepN E x)) n (a+1) (minF lo x) (maxF hi x),ids):=by
 have h2:=Apz a 1 (by have:=h.oa;omega)
 have h3:=least_ok lo x h.ol hx
 have h4:=most_ok hi x h.oh hx
 have hC:C.length≤E.length+1:=by rcases h.oc with c | c<;>simp [c]
 refine tS ?_;refine tD0 rfl ?_;refine dR 3 rfl ?_;refine dP rfl rfl (AZ rfl rfl rfl) ?_
 refine ApI rfl rfl h3 rfl rfl rfl rfl rfl ?_
 refine dR 3 rfl ?_;refine dP rfl rfl (AZ rfl rfl rfl) ?_
 refine ApI rfl rfl h4 rfl rfl rfl rfl rfl ?_
 refine dR 4 rfl (dN ?_);refine⟨rfl,?_⟩;refine tS (tO (tR 2 rfl ?_))
 refine tC rfl rfl (h2) rfl rfl rfl rfl rfl rfl ?_;refine tR 2 rfl (tN (tS (tO ?_)))
 refine tR 1 rfl ?_
 refine AlH (E:=E) (C:=C) (n:=n) (a:=a+1) (lo:=minF lo x) (hi:=maxF hi x) h.el hC rfl rfl rfl ?_
 refine tR 2 rfl (tN (tS ?_));refine tD0 rfl ?_;refine dR 4 rfl ?_
 have hst:=AvI E (fillC E C) n (a+1) (minF lo x) (maxF hi x) h.oe h.el x hx
 have hfl:(fillC E C).length=E.length+1:=by simp [fillC];omega
 have hzz:∀ S:Ab,S[3]?=some (some ⟨1,eu (fillC E C)⟩)→(RM.mapL (frz Az) [.agg [.imm (en E),.view 3 0 (E.length+1) true,u6 n,u6 (a+1),fl (minF lo x),fl (maxF hi x)],fl x]).run S=some ([gv E (fillC E C) n (a+1) (minF lo x) (maxF hi x),fl x],[3]):=fun S hS =>
  Adh (i:=[3]) (j:=[]) (AtD hS (by rw [hfl])) (Adi rfl)
 refine ApI rfl (hzz _ rfl) hst (Bool.or_true _) rfl rfl rfl rfl ?_
 have hsl:stepN E x<(fillC E C).length:=by have:=ApL E x;omega
 refine dP rfl rfl (AE rfl rfl (by omega) rfl rfl) ?_
 refine dP rfl rfl (AbO 0 rfl rfl hsl rfl) ?_
 have hcb:(fillC E C).getD (stepN E x) 0<4294967296:=by
  unfold fillC
  rcases Nat.lt_or_ge (stepN E x) C.length with g | g
  ·rw [Atg g,List.getD_eq_getElem?_getD,List.getElem?_eq_getElem g]
   have:=h.ca _ (List.getElem_mem g)
   have:=h.oa
   simp only [Option.getD_some];omega
  ·rw [List.getD_eq_getElem?_getD,List.getElem?_append_right g,List.getElem?_replicate]
   split<;>simp
 refine dP rfl rfl (Ait (b:=1) rfl rfl (AaA (by omega))) ?_;refine dP rfl rfl (AE rfl rfl (by omega) rfl rfl) ?_
 refine dP rfl rfl (Agg 0 rfl rfl rfl (by omega) ⟨_,rfl⟩ rfl rfl) ?_;refine dN ?_;refine⟨rfl,?_⟩;refine tS (tO ?_)
 refine tR 2 rfl (tN ?_)
 refine tT (AS (vs:=[_]) rfl ⟨_,AtD (C:=bump (fillC E C) (stepN E x)) rfl ?_⟩)
 rw [bump,List.length_set,hfl]
theorem addX_ok (E C:List Nat) (n a lo hi:Nat) (h:OkG E C n a lo hi) (x:Nat) (hx:W64 x) (hn:fN x=false) :
 Ak APg Abd [gv E C n a lo hi,fl x] (gv E (bump (fillC E C) (stepN E x)) n (a+1) (minF (if a=0 then x else lo) x) (maxF (if a=0 then x else hi) x)):=by
 have h1:=Aix x hx
 rw [hn] at h1
 refine Al (af:=Aaj) rfl rfl ?_
 refine tS (tO (tR 2 rfl (tN (tS (tS (tO ?_))))))
 refine tR 1 rfl ?_;refine tC rfl rfl (h1) rfl rfl rfl rfl rfl rfl ?_;refine tN ?_
 refine AI (t:=false) rfl (fun h=>nomatch h) (fun _=>?_);refine tK (tS (tS (tO ?_)))
 refine tR 3 rfl (tN ?_)
 refine tQ rfl beq_iff_eq (fun g=>?_) (fun g=>tK ?_)
 ·have g:a=0:=by omega
  rw [if_pos g,if_pos g]
  refine tO (tR 6 rfl (tN ?_))
  refine TC.weaken ?_ (AvE E C n a x x ⟨h.oe,h.el,h.oc,h.on,h.oa,h.ca,hx,hx⟩ x hx)
  (repeat' (first | exact wN | refine wC rfl ?_))
 ·have g:¬ a=0:=by omega
  rw [if_neg g,if_neg g]
  refine TC.weaken ?_ (AvE E C n a lo hi h x hx)
  (repeat' (first | exact wN | refine wC rfl ?_))
end Go.Eng.Ga
namespace Go.Eng.Ga
open Go Go.Eng
variable [Inhabited GlobT]
attribute [local irreducible] OpR TL TD TC TS Ak
def bad1 (E:List Nat) (i:Nat):Bool:=fN (E.getD i 0) || (decide (0<i) && decide (fT (E.getD i 0)≤fT (E.getD (i - 1) 0)))
def badE (E:List Nat):Bool:=(List.range E.length).any (bad1 E)
def errN (E:List Nat):Nat:=if 32<E.length then 6 else if badE E then 21 else 0
theorem Aks {E:List Nat} {i:Nat} (hi:i<E.length) (h:bad1 E i=true):badE E=true:=List.any_eq_true.2 ⟨i,List.mem_range.2 hi,h⟩
theorem badE_no {E:List Nat} (h:∀ i,i<E.length→bad1 E i=false):badE E=false:=by
 unfold badE
 rw [List.any_eq_false]
 intro i hi
 rw [h i (List.mem_range.1 hi)];simp
theorem cmp_ge {a b:Nat}:decide (cmpF a b≥0)=decide (fT b≤fT a):=by
 unfold cmpF cmpI
 refine decide_eq_decide.2 ?_
 split
 ·simp;omega
 ·split<;>simp<;>omega
theorem errN_ok {E:List Nat} (hw:∀ x∈E,W64 x) (h:errN E=0):OkE E∧E.length≤32:=by
 unfold errN at h
 split at h
 ·cases h
 ·split at h
  ·cases h
  ·rename_i h1 h2
   have hb:∀ i,i<E.length→bad1 E i=false:=fun i hi=>by
    cases hc:bad1 E i
    ·rfl
    ·exact absurd (Aks hi hc) h2
   refine⟨⟨hw,fun x hx=>?_,?_⟩,by omega⟩
   ·obtain⟨i,hi,rfl⟩:=List.getElem_of_mem hx
    have:=hb i hi
    unfold bad1 at this
    rw [Bool.or_eq_false_iff] at this
    rw [←this.1,List.getD_eq_getElem?_getD,List.getElem?_eq_getElem hi];rfl
   ·have step:∀ j,j+1<E.length→fT (E.getD j 0)<fT (E.getD (j+1) 0):=fun j hj=>by
     have:=hb (j+1) hj
     unfold bad1 at this
     rw [Bool.or_eq_false_iff] at this
     have:=this.2
     simp at this
     simpa using this
    intro i j hij
    induction j with
    | zero=>omega
    | succ j ih =>
      intro hj
      rcases Nat.lt_or_ge i j with g | g
      ·exact Int.lt_trans (ih g (by omega)) (step j hj)
      ·have:i=j:=by omega
       subst this
       exact step i hj
theorem AdR {E:List Nat} (hw:∀ x∈E,W64 x) (i:Nat):W64 (E.getD i 0):=by
 rw [List.getD_eq_getElem?_getD]
 cases hi:E[i]? with
 | none=>simp
 | some x=>exact hw x (List.mem_of_getElem? hi)
theorem rNew_ok (E:List Nat) (hw:∀ x∈E,W64 x) (hl:E.length<4294967296):Ak APg AtL [.imm (en E)] (.int .i64 (errN E:Int)):=by
 have hle:(en E).length=E.length:=List.length_map _
 unfold errN
 refine Al (af:=Ank) rfl rfl ?_
 refine tS (tO (tR 1 rfl (tN (tS (tS (tO ?_))))))
 refine tR 3 rfl (tN ?_)
 refine tQ rfl decide_eq_true_iff (fun c=>?_) (fun c=>tK ?_)
 ·rw [if_pos (by omega)]
  refine tS (tO (tR 1 rfl (tN ?_)));exact tT (AS rfl ⟨_,fzO rfl⟩)
 rw [if_neg (by omega)]
 refine tS (tS (tO (tR 3 rfl (tN ?_))))
 refine tB (lST (σ:=Nat) (fun i=>E.length - i) (fun i=>[(0,.imm (en E)),(8,.imm (en E)),(9,.int .i64 ((en E).length:Int)),(10,.int .i64 (i:Int))])
  (fun i S=>i≤E.length∧S=[]∧∀ j,j<i→bad1 E j=false) 0 (by (repeat' (first | exact wN | refine wC rfl ?_))) ⟨by omega,rfl,fun j hj=>absurd hj (by omega)⟩ ?_)
 rintro i S ⟨hi,rfl,hb⟩
 refine tS (tO (tR 1 rfl (tN (tS ?_))))
 refine tQ rfl decide_eq_true_iff (fun c=>tK ?_) (fun c=>tX ?_)
 ·have hi':i<E.length:=by omega
  have hne:=Apl (AdR hw i)
  refine tS ?_;refine tB ?_;refine tS (tO (tR 1 rfl ?_))
  refine tP (Bl rfl rfl (AQ (d:=0) (by omega)) rfl) rfl rfl rfl rfl ?_;refine tR 3 rfl (tN (tS ?_))
  refine tO (tR 4 rfl ?_)
  rw [hne]
  cases hn:fN (E.getD i 0)
  ·by_cases h0:i=0
   ·subst h0
    have hz:bad1 E 0=false:=by unfold bad1;rw [hn];rfl
    refine tR 5 rfl ?_
    refine AlG rfl rfl ?_
    refine tR 7 rfl (tN ?_);refine AI (t:=false) rfl (fun h=>nomatch h) (fun _=>?_);refine tK (tO ?_)
    refine tP (oB (v := .int .i64 1) rfl rfl rfl) rfl rfl rfl rfl ?_;refine tR 1 rfl (tN ?_)
    refine⟨1,by omega,by (repeat' (first | exact wN | refine wC rfl ?_)),by omega,rfl,fun j hj=>?_⟩
    have:j=0:=by omega
    subst this;exact hz
   ·have hc:=rcmp_ok (E.getD (i - 1) 0) (E.getD i 0) (AdR hw _) (AdR hw _)
    have him:i - 1<E.length:=by omega
    refine tR 3 rfl ?_
    rw [show decide ((i:Int)>0)=true from decide_eq_true (by omega)]
    refine tR 2 rfl ?_;refine tP (AaH (b:=1) rfl rfl (by omega) (by omega)) rfl rfl rfl rfl ?_
    refine tP (Bl rfl rfl (AQ (d:=0) (by omega)) rfl) rfl rfl rfl rfl ?_;refine tR 2 rfl ?_
    refine tC rfl rfl (hc) rfl rfl rfl rfl rfl rfl ?_;refine tR 3 rfl (tN ?_)
    rw [cmp_ge]
    refine tQ rfl decide_eq_true_iff (fun g=>?_) (fun g=>tK ?_)
    ·have hbd:badE E=true:=Aks hi' (by unfold bad1;rw [hn,decide_eq_true (by omega),decide_eq_true g];rfl)
     rw [hbd]
     refine tS (tO (tR 1 rfl (tN ?_)));exact tT (AS rfl ⟨_,fzO rfl⟩)
    ·refine tO ?_;refine tP (oA (b:=1) rfl rfl (by omega)) rfl rfl rfl rfl ?_;refine tR 1 rfl (tN ?_)
     refine⟨i+1,by omega,by (repeat' (first | exact wN | refine wC rfl ?_)),by omega,rfl,fun j hj=>?_⟩
     rcases Nat.lt_or_ge j i with k | k
     ·exact hb j k
     ·have:j=i:=by omega
      subst this
      unfold bad1
      rw [hn,decide_eq_false g];simp
  ·have hbd:badE E=true:=Aks hi' (by unfold bad1;rw [hn];rfl)
   rw [hbd]
   refine tR 5 rfl ?_
   refine AlG rfl rfl ?_
   refine tR 7 rfl (tN ?_);refine AI (t:=true) rfl (fun _=>?_) (fun h=>nomatch h);refine tS (tO ?_)
   refine tR 1 rfl (tN ?_);exact tT (AS rfl ⟨_,fzO rfl⟩)
 ·have hbd:badE E=false:=badE_no fun j hj=>hb j (by omega)
  rw [hbd]
  refine tS (tO (tR 1 rfl (tN ?_)));exact tT (AS rfl ⟨_,fzO rfl⟩)
end Go.Eng.Ga
namespace Go.Eng.Ga
open Go Go.Eng
variable [Inhabited GlobT]
attribute [local irreducible] OpR TL TD TC TS Ak
theorem Apv:AaV APg (AJ APg 20) Aae .nils=true:=by kernel_rfl
theorem Ang:AaV APg (AJ APg 20) Aae .enil=true:=by kernel_rfl
theorem Apu (x:Nat) (l:List Nat) (hl:l.length≤1000000):∃ v S1,CallSR APg Aae [.imm (en (x::l))] [] v S1∧∃ j,v = .view j 0 (en (x::l)).length false∧S1[j]?=some (some ⟨1,en (x::l)⟩):=by
 refine callSR_of (af:=Aak) rfl rfl ?_
 refine tS (tO (tR 1 rfl (tN (tS (tS (tO ?_))))))
 refine tR 2 rfl (tN ?_);refine AI (t:=false) rfl (fun h=>nomatch h) (fun _=>?_);refine tK (tS ?_)
 refine tO ?_;refine tP (AZ rfl rfl rfl) rfl rfl rfl rfl ?_;refine tR 1 rfl ?_
 refine AH (AsQ rfl rfl (rows:=en (x::l)) rfl (by simp) (by simp;omega) rfl) rfl rfl rfl rfl ?_
 refine tR 1 rfl (tN ?_)
 refine tT ⟨.inr rfl,_,rfl,0,?_,?_⟩
 ·simp [one]
 ·simp
theorem nNew_ok (E:List Nat) (hw:∀ x∈E,W64 x) (hl:E.length<4294967296) (he:errN E=0):Ak APg Adj [.imm (en E)] (.tuple [gv E [] 0 0 0 0,.int .i64 0]):=by
 have hle:(en E).length=E.length:=List.length_map _
 have hok:=errN_ok hw he
 have hbe:∀ i,i<E.length→bad1 E i=false:=fun i hi=>by
  cases hc:bad1 E i
  ·rfl
  ·have:=Aks hi hc
   unfold errN at he
   rw [if_neg (by omega),if_pos this] at he
   cases he
 refine Al (af:=AeQ) rfl rfl ?_
 refine tS (tO (tR 2 rfl (tN (tS (tS (tO ?_))))))
 refine tR 3 rfl (tN ?_)
 refine tQ rfl decide_eq_true_iff (fun c=>?_) (fun c=>tK ?_)
 ·exfalso;omega
 refine tS (tS (tO (tR 3 rfl (tN ?_))))
 refine tB (lST (σ:=Nat) (fun i=>E.length - i) (fun i=>[(0,.imm (en E)),(2,.ptr 0 0 0),(10,.imm (en E)),(11,.int .i64 ((en E).length:Int)),(12,.int .i64 (i:Int))])
  (fun i S=>i≤E.length∧S=[some ⟨6,[[.nils,.nils,.int .u64 0,.int .u64 0,.flt .f64 0,.flt .f64 0]]⟩]) 0 (by (repeat' (first | exact wN | refine wC rfl ?_))) ⟨by omega,rfl⟩ ?_)
 rintro i S ⟨hi,rfl⟩
 refine tS (tO (tR 1 rfl (tN (tS ?_))))
 refine tQ rfl decide_eq_true_iff (fun c=>tK ?_) (fun c=>tX ?_)
 ·have hi':i<E.length:=by omega
  have hne:=Aix _ (AdR hw i)
  cases hn:fN (E.getD i 0)
  ·rw [hn] at hne
   by_cases h0:i=0
   ·subst h0
    refine tS ?_;refine tB ?_;refine tS (tO (tR 1 rfl ?_))
    refine tP (Bl rfl rfl (AQ (d:=0) (by omega)) rfl) rfl rfl rfl rfl ?_;refine tR 3 rfl (tN (tS ?_))
    refine tO (tR 1 rfl ?_);refine tC rfl rfl (hne) rfl rfl rfl rfl rfl rfl ?_;refine tR 6 rfl ?_
    refine AlG rfl rfl ?_
    refine tR 7 rfl (tN ?_);refine AI (t:=false) rfl (fun h=>nomatch h) (fun _=>?_);refine tK (tO ?_)
    refine tP (oB (v := .int .i64 1) rfl rfl rfl) rfl rfl rfl rfl ?_;refine tR 1 rfl (tN ?_)
    exact⟨1,by omega,by (repeat' (first | exact wN | refine wC rfl ?_)),by omega,rfl⟩
   ·have hc:=AkR (E.getD (i - 1) 0) (E.getD i 0) (AdR hw _) (AdR hw _)
    have him:i - 1<E.length:=by omega
    refine tS ?_;refine tB ?_;refine tS (tO (tR 1 rfl ?_))
    refine tP (Bl rfl rfl (AQ (d:=0) (by omega)) rfl) rfl rfl rfl rfl ?_;refine tR 3 rfl (tN (tS ?_))
    refine tO (tR 1 rfl ?_);refine tC rfl rfl (hne) rfl rfl rfl rfl rfl rfl ?_;refine tR 4 rfl ?_
    rw [show decide ((i:Int)>0)=true from decide_eq_true (by omega)]
    refine tR 2 rfl ?_;refine tP (AaH (b:=1) rfl rfl (by omega) (by omega)) rfl rfl rfl rfl ?_
    refine tP (Bl rfl rfl (AQ (d:=0) (by omega)) rfl) rfl rfl rfl rfl ?_;refine tR 2 rfl ?_
    refine tC rfl rfl (hc) rfl rfl rfl rfl rfl rfl ?_;refine tR 3 rfl (tN ?_)
    rw [cmp_ge]
    refine tQ rfl decide_eq_true_iff (fun g=>?_) (fun g=>tK ?_)
    ·have hbd:=hbe i hi'
     unfold bad1 at hbd
     rw [hn,decide_eq_true (by omega),decide_eq_true g] at hbd
     cases hbd
    ·refine tO ?_;refine tP (oA (b:=1) rfl rfl (by omega)) rfl rfl rfl rfl ?_;refine tR 1 rfl (tN ?_)
     exact⟨i+1,by omega,by (repeat' (first | exact wN | refine wC rfl ?_)),by omega,rfl⟩
  ·have hbd:=hbe i hi'
   unfold bad1 at hbd
   rw [hn] at hbd
   cases hbd
 ·refine tS (tO (tR 1 rfl ?_))
  cases E with
  | nil =>
    refine AyB (o_keep0 rfl rfl rfl rfl Apv Ang) rfl rfl rfl rfl ?_
    refine tP (Aba rfl rfl) rfl rfl rfl rfl ?_;refine tR 2 rfl (tN ?_)
    exact tT (AS (vs:=[_,_]) rfl ⟨[],rfl⟩)
  | cons x l =>
    obtain⟨v,S1,h1,j,rfl,h2⟩:=Apu x l (by have:=hok.2;simp at this;omega)
    refine AyB (o_keepv rfl rfl rfl (by simp only [norefL,Zv.noref,Alt,Bool.and_self]) rfl h1 h2 (Alt _)) rfl rfl rfl rfl ?_
    refine tP (Aba rfl rfl) rfl rfl rfl rfl ?_;refine tR 2 rfl (tN ?_)
    refine tT (AS (vs:=[_,_]) rfl ⟨_,AoX (n:=5) (by simp [Aj,Zv.closed]) (Adh (Azz (n:=4) (by simp [Aj,Zv.closed]) (Adh (Aiz (n:=3) (blk:=⟨1,en (x::l)⟩) rfl rfl (AmQ _)) (Adh Azx (Adi rfl)))) (Adi rfl))⟩)
end Go.Eng.Ga
namespace Go.Eng.Ga
open Go Go.Eng
variable [Inhabited GlobT]
attribute [local irreducible] OpR TL TD TC TS Ak
theorem cmp_le {a b:Nat}:decide (cmpF a b≤0)=decide (fT a≤fT b):=by
 unfold cmpF cmpI
 refine decide_eq_decide.2 ?_
 split
 ·simp;omega
 ·split<;>simp<;>omega
end Go.Eng.Ga
namespace Go.Eng.Ga
open Go Go.Eng
variable [Inhabited GlobT]
attribute [local irreducible] OpR TL TD TC TS Ak
def stp (E:List Nat) (s:List Nat × Nat × Nat) (x:Nat):List Nat × Nat × Nat:=if fN x then (s.1,s.2.1+1,s.2.2) else (bump s.1 (stepN E x),s.2.1,s.2.2+1)
def cnt (E l:List Nat):List Nat × Nat × Nat:=l.foldl (stp E) (List.replicate (E.length+1) 0,0,0)
theorem Alf {l:List Nat} {i:Nat} (h:i<l.length):l.take (i+1)=l.take i++[l.getD i 0]:=by
 rw [List.take_add_one,List.getElem?_eq_getElem h,List.getD_eq_getElem?_getD,List.getElem?_eq_getElem h];rfl
theorem cnt_snoc (E l:List Nat) (x:Nat):cnt E (l++[x])=stp E (cnt E l) x:=by unfold cnt;rw [List.foldl_append];rfl
theorem ArM (E:List Nat) {l:List Nat} {i:Nat} (h:i<l.length):cnt E (l.take (i+1))=stp E (cnt E (l.take i)) (l.getD i 0):=by rw [Alf h,cnt_snoc]
structure Ayv (E:List Nat) (m:Nat) (s:List Nat × Nat × Nat):Prop where
 len:s.1.length=E.length+1
 le:∀ x∈s.1,x≤s.2.2
 sum:s.2.1+s.2.2=m
theorem AzY (C:List Nat) (i:Nat):(bump C i).length=C.length:=by unfold bump;simp
theorem bump_le {C:List Nat} {a i:Nat} (h:∀ x∈C,x≤a):∀ x∈bump C i,x≤a+1:=by
 intro x hx
 unfold bump at hx
 rcases List.mem_or_eq_of_mem_set hx with g | g
 ·have:=h x g;omega
 ·subst g
  rw [List.getD_eq_getElem?_getD]
  cases hi:C[i]? with
  | none=>simp
  | some y=>have:=h y (List.mem_of_getElem? hi);simp;omega
theorem stp_ok {E:List Nat} {m:Nat} {s:List Nat × Nat × Nat} (h:Ayv E m s) (x:Nat):Ayv E (m+1) (stp E s x):=by
 unfold stp
 have:=h.sum
 split
 ·exact⟨h.len,h.le,by simp only;omega⟩
 ·exact⟨by simp only [AzY];exact h.len,bump_le h.le,by simp only;omega⟩
theorem cnt_zero (E:List Nat):Ayv E 0 (cnt E []):=⟨List.length_replicate,fun x hx=>by rw [List.eq_of_mem_replicate hx];exact Nat.zero_le _,rfl⟩
theorem AkQ (E l:List Nat):Ayv E l.length (cnt E l):=by
 have:∀ (l:List Nat) (s:List Nat × Nat × Nat) (m:Nat),Ayv E m s→Ayv E (m+l.length) (l.foldl (stp E) s):=by
  intro l
  induction l with
  | nil=>intro s m h;exact h
  | cons x l ih=>intro s m h;rw [List.foldl_cons,List.length_cons,show m+(l.length+1)=m+1+l.length by omega];exact ih _ _ (stp_ok h x)
 have h:=this l _ 0 (cnt_zero E)
 rwa [Nat.zero_add] at h
end Go.Eng.Ga
namespace Go.Eng.Ga
open Go Go.Eng
variable [Inhabited GlobT]
attribute [local irreducible] OpR TL TD TC TS Ak
structure GS where
 C:List Nat
 n:Nat
 a:Nat
 lo:Nat
 hi:Nat
abbrev gvs (E:List Nat) (s:GS):Zv:=gv E s.C s.n s.a s.lo s.hi
def addS (E:List Nat) (s:GS) (x:Nat):GS :=
 if fN x then ⟨s.C,s.n+1,s.a,s.lo,s.hi⟩ else ⟨bump (fillC E s.C) (stepN E x),s.n,s.a+1,minF (if s.a=0 then x else s.lo) x,maxF (if s.a=0 then x else s.hi) x⟩
def gOf (E l:List Nat):GS:=l.foldl (addS E) ⟨[],0,0,0,0⟩
theorem gOf_snoc (E l:List Nat) (x:Nat):gOf E (l++[x])=addS E (gOf E l) x:=by unfold gOf;rw [List.foldl_append];rfl
theorem Aqs (E:List Nat) {l:List Nat} {i:Nat} (h:i<l.length):gOf E (l.take (i+1))=addS E (gOf E (l.take i)) (l.getD i 0):=by rw [Alf h,gOf_snoc]
structure GsOk (E:List Nat) (s:GS) (c:List Nat × Nat × Nat):Prop where
 c1:fillC E s.C=c.1
 c2:s.n=c.2.1
 c3:s.a=c.2.2
 len:s.C=[]∨s.C.length=E.length+1
 le:∀ x∈s.C,x≤s.a
 ol:W64 s.lo
 oh:W64 s.hi
theorem Bbi {E C:List Nat} (h:C.length=E.length+1):fillC E C=C:=by unfold fillC;rw [h,Nat.sub_self];simp
theorem minF_w {a b:Nat} (ha:W64 a) (hb:W64 b):W64 (minF a b):=by
 unfold minF
 split
 ·exact hb
 ·exact ha
theorem maxF_w {a b:Nat} (ha:W64 a) (hb:W64 b):W64 (maxF a b):=by
 unfold maxF
 split
 ·exact hb
 ·exact ha
theorem addS_ok {E:List Nat} {s:GS} {c:List Nat × Nat × Nat} (h:GsOk E s c) (hc:c.1.length=E.length+1) (hl:∀ x∈c.1,x≤c.2.2) {x:Nat} (hx:W64 x):GsOk E (addS E s x) (stp E c x):=by
 unfold addS stp
 obtain⟨h1,h2,h3,h4,h5,h6,h7⟩:=h
 split
 ·exact⟨h1,by simp only;omega,h3,h4,h5,h6,h7⟩
 ·have hb:(bump (fillC E s.C) (stepN E x)).length=E.length+1:=by rw [AzY,h1,hc]
  refine⟨?_,h2,by simp only;omega,.inr hb,?_,?_,?_⟩
  ·rw [Bbi hb,h1]
  ·rw [h1,h3];exact bump_le hl
  ·refine minF_w ?_ hx
   split
   ·exact hx
   ·exact h6
  ·refine maxF_w ?_ hx
   split
   ·exact hx
   ·exact h7
theorem gOf_ok (E:List Nat) {l:List Nat} (hL:∀ x∈l,W64 x):GsOk E (gOf E l) (cnt E l):=by
 have hz:GsOk E (gOf E []) (cnt E []):=⟨by simp [gOf,cnt,fillC],rfl,rfl,.inl rfl,(fun x hx=>absurd hx List.not_mem_nil),show W64 0 by decide,show W64 0 by decide⟩
 have:∀ i,i≤l.length→GsOk E (gOf E (l.take i)) (cnt E (l.take i)):=by
  intro i
  induction i with
  | zero=>intro _;rw [List.take_zero];exact hz
  | succ i ih =>
    intro hi
    rw [Aqs E (by omega),ArM E (by omega)]
    have hk:=AkQ E (l.take i)
    exact addS_ok (ih (by omega)) hk.len hk.le (AdR hL i)
 have h:=this l.length (Nat.le_refl _)
 rwa [List.take_length] at h
theorem AoR {l:List Nat} (hL:∀ x∈l,W64 x) (i:Nat):∀ x∈l.take i,W64 x:=fun x hx=>hL x (List.mem_of_mem_take hx)
theorem OkG.of {E:List Nat} (hE:OkE E) (hel:E.length<4294967296) {s:GS} {c:List Nat × Nat × Nat} (h:GsOk E s c) {m:Nat} (hk:Ayv E m c) (hm:m<4294967296):OkG E s.C s.n s.a s.lo s.hi :=
 ⟨hE,hel,h.len,by have:=hk.sum;have:=h.c2;omega,by have:=hk.sum;have:=h.c3;omega,h.le,h.ol,h.oh⟩
theorem addS_call (E:List Nat) (s:GS) (h:OkG E s.C s.n s.a s.lo s.hi) (x:Nat) (hx:W64 x):Ak APg Abd [gvs E s,fl x] (gvs E (addS E s x)):=by
 unfold addS
 cases hn:fN x
 ·exact addX_ok E s.C s.n s.a s.lo s.hi h x hx hn
 ·exact addN_ok E s.C s.n s.a s.lo s.hi h x hx hn
theorem of_gen (E F l:List Nat) (code:Nat) (hl:l.length<4294967296) (hL:∀ x∈l,W64 x) (hF:OkE F) (hfl:F.length<4294967296)
 (hnew:Ak APg Adj [.imm (en E)] (.tuple [gv F [] 0 0 0 0,.int .i64 (code:Int)])):Ak APg AzF [.imm (en E),.imm (en l)] (.tuple [gvs F (gOf F l),.int .i64 (code:Int)]):=by
 have hll':(en l).length=l.length:=List.length_map _
 refine Al (af:=ArQ) rfl rfl ?_
 refine tS (tO (tR 2 rfl (tN (tS (tO (tR 1 rfl ?_))))))
 refine tC rfl (by simp [Zv.closed,Aj,Ao,cLm,cLLm]) (hnew) (by simp [Zv.noref,Zv.flat,norefL,Aab,nLm,nLLm]) rfl rfl rfl rfl rfl ?_
 refine tR 6 rfl (tN (tS (tS (tO (tR 3 rfl (tN ?_))))))
 refine tB (lST (σ:=Nat) (fun i=>l.length - i) (fun i=>[(4,.ptr 0 0 0),(6,.ptr 1 0 0),(7,.int .i64 (code:Int)),(15,.imm (en l)),(16,.int .i64 ((en l).length:Int)),(17,.int .i64 (i:Int))])
  (fun i S=>i≤l.length∧S=[some ⟨6,[[.nils,.nils,.int .u64 0,.int .u64 0,.flt .f64 0,.flt .f64 0]]⟩,some ⟨6,[gc F (gOf F (l.take i)).C (gOf F (l.take i)).n (gOf F (l.take i)).a (gOf F (l.take i)).lo (gOf F (l.take i)).hi]⟩]) 0 (by (repeat' (first | exact wN | refine wC rfl ?_))) ⟨by omega,rfl⟩ ?_)
 rintro i S ⟨hi,rfl⟩
 refine tS (tO (tR 1 rfl (tN (tS ?_))))
 refine tQ rfl decide_eq_true_iff (fun c=>tK ?_) (fun c=>tX ?_)
 ·have hi':i<l.length:=by omega
  have hk:=AkQ F (l.take i)
  rw [List.length_take_of_le hi] at hk
  have ha:=addS_call F (gOf F (l.take i)) (OkG.of hF hfl (gOf_ok F (AoR hL i)) hk (by omega)) (l.getD i 0) (AdR hL i)
  have hs:=Aqs F hi'
  generalize gOf F (l.take i)=s at *
  refine tS ?_;refine tB ?_;refine tS (tO ?_)
  refine tP (Bl rfl rfl (AQ (d:=0) (by omega)) rfl) rfl rfl rfl rfl ?_;refine tR 2 rfl (tN (tO ?_))
  refine tR 2 rfl ?_
  refine tC rfl (by simp [Zv.closed,Aj,Ao,cLm,cLLm]) (ha) (by simp [Zv.noref,Zv.flat,norefL,Aab,nLm,nLLm]) rfl rfl rfl rfl rfl ?_
  refine tR 1 rfl (tN (tO ?_));refine tP (oA (b:=1) rfl rfl (by omega)) rfl rfl rfl rfl ?_
  refine tR 1 rfl (tN ?_)
  refine⟨i+1,by omega,by (repeat' (first | exact wN | refine wC rfl ?_)),by omega,by rw [hs]⟩
 ·have:i=l.length:=by omega
  subst this
  rw [List.take_length]
  refine tS (tO (tR 4 rfl (tN ?_)))
  exact tT (AS rfl ⟨_,fzO (by simp [one,Bn,Zv.closed,Aj,cLm,cLLm])⟩)
end Go.Eng.Ga
namespace Go.Eng.Ga
open Go Go.Eng
variable [Inhabited GlobT]
attribute [local irreducible] OpR TL TD TC TS Ak
structure SP where
 lo:Nat
 hi:Nat
 b:Bool
def spS (s:SP) (x:Nat):SP:=if fN x then s else ⟨if s.b then minF s.lo x else x,if s.b then maxF s.hi x else x,true⟩
def spL (l:List Nat):SP:=l.foldl spS ⟨9221120237041090561,9221120237041090561,false⟩
theorem spL_snoc (l:List Nat) (x:Nat):spL (l++[x])=spS (spL l) x:=by unfold spL;rw [List.foldl_append];rfl
theorem ApO {l:List Nat} {i:Nat} (h:i<l.length):spL (l.take (i+1))=spS (spL (l.take i)) (l.getD i 0):=by rw [Alf h,spL_snoc]
structure IsG (E l:List Nat) (s:GS):Prop where
 c1:fillC E s.C=(cnt E l).1
 c2:s.n=(cnt E l).2.1
 c3:s.a=(cnt E l).2.2
 cl:s.C.length≤E.length+1
 b:(spL l).b=decide (s.a≠0)
 ol:W64 s.lo
 oh:W64 s.hi
 lo:s.a≠0→sameF s.lo (spL l).lo=true
 hi:s.a≠0→sameF s.hi (spL l).hi=true
end Go.Eng.Ga
namespace Go.Eng.Ga
open Go Go.Eng Ieee
variable [Inhabited GlobT]
attribute [local irreducible] OpR TL TD TC TS Ak
def f64 (n:Nat):Nat:=FloatKind.nearest .f64 (n:Int)
theorem f64_eq (n:Nat):f64 n=rnd n 0:=by
 have h1:f64 n=Format.nearest double (decide ((n:Int)<0)) (n:Int).natAbs 0:=rfl
 rw [h1,AsT,decide_eq_false (by omega),Int.natAbs_natCast]
 unfold Ala
 exact if_neg Bool.false_ne_true
theorem f64_bd {n:Nat} (h:n<18446744073709551616):f64 n≤4895412794951729152:=by
 rw [f64_eq]
 have h1:rnd n 0≤rnd 18446744073709551616 0:=rnd_mono (U:=0) (by omega) (by omega) (Nat.mul_le_mul_right _ (by omega))
 have h2:rnd 18446744073709551616 0=4895412794951729152:=by kernel_rfl
 omega
theorem f64_r {n:Nat} (h:n<18446744073709551616):fR (f64 n)=f64 n∧fS (f64 n)=false∧fN (f64 n)=false:=by
 have hb:=f64_bd h
 have h1:fR (f64 n)=f64 n:=Nat.mod_eq_of_lt (by omega)
 refine⟨h1,decide_eq_false (by omega),fN_f.2 ?_⟩
 rw [h1];unfold infR;omega
def inU (s:Nat):Bool := !fN s && decide (0≤fK s) && decide (fK s≤4607182418800017408)
theorem mul_some {s n:Nat} (hs:W64 s) (h:inU s=true) (hn:n<18446744073709551616):∃ w,FloatKind.f64.format.mul s (f64 n)=some w:=by
 unfold inU at h
 simp only [Bool.and_eq_true,Bool.not_eq_true',decide_eq_true_iff] at h
 obtain⟨⟨h1,h2⟩,h3⟩:=h
 have hb:=f64_bd hn
 obtain⟨hr,-,-⟩:=f64_r hn
 have hlt:=fR_lt s
 have hR:fR s<infR:=by
  unfold fK at h2 h3
  unfold infR
  split at h2<;>split at h3<;>first | omega | (rename_i c d;simp_all)
 obtain⟨m,i,e1,-,-⟩:=ApX hs hR
 obtain⟨m',i',e2,-,-⟩:=ApX (w:=f64 n) (by omega) (by rw [hr];unfold infR;omega)
 refine⟨_,show ((Format.read double s).product (Format.read double (f64 n))).map (Format.write double)=_ by rw [e1,e2];rfl⟩
end Go.Eng.Ga
namespace Go.Eng.Ga
open Go Go.Eng Ieee
variable [Inhabited GlobT]
attribute [local irreducible] OpR TL TD TC TS Ak
def sumC (C:List Nat) (i:Nat):Nat:=(C.take i).sum
theorem Asl {C:List Nat} {i:Nat} (h:i<C.length):sumC C (i+1)=sumC C i+C.getD i 0:=by
 unfold sumC
 rw [Alf h,List.sum_append];simp
theorem BcE (C:List Nat) (i:Nat):sumC C i≤C.sum:=by
 unfold sumC
 conv=>rhs;rw [←List.take_append_drop i C,List.sum_append]
 omega
def lessF (a b:Nat):Bool:=FloatKind.f64.format.order a b == some .lt
def cnd (C:List Nat) (w i:Nat):Bool:=decide (0<sumC C (i+1)) && !lessF (f64 (sumC C (i+1))) w
def atI (E C:List Nat) (w:Nat):Nat:=min ((List.range (E.length+1)).findIdx (cnd C w)) E.length
theorem Baf {E C:List Nat} {w i:Nat} (hi:i≤E.length) (h1:∀ j,j<i→cnd C w j=false) (h2:i<E.length→cnd C w i=true):atI E C w=i:=by
 unfold atI
 rcases Nat.lt_or_ge i E.length with h | h
 ·have:(List.range (E.length+1)).findIdx (cnd C w)=i:=by
   refine(List.findIdx_eq (by simp;omega)).2 ⟨?_,?_⟩
   ·simpa using h2 h
   ·intro j hj
    simpa using h1 j hj
  rw [this];omega
 ·have he:i=E.length:=by omega
  subst he
  have:E.length≤(List.range (E.length+1)).findIdx (cnd C w):=by
   refine Nat.le_of_not_lt fun hlt=>?_
   have hf:=List.findIdx_getElem (p:=cnd C w) (xs:=List.range (E.length+1)) (w:=by simp;omega)
   simp only [List.getElem_range] at hf
   rw [h1 _ hlt] at hf
   cases hf
  omega
theorem ge_zero {s:Nat} (hs:W64 s):(FloatKind.f64.format.order s 0 == some .gt || FloatKind.f64.format.order s 0 == some .eq)=(!fN s && decide (0≤fK s)):=by
 rw [fo_ge hs (by omega),show fN 0=false by decide,show fK 0=0 by decide];simp
theorem le_one {s:Nat} (hs:W64 s):(FloatKind.f64.format.order s 4607182418800017408 == some .lt || FloatKind.f64.format.order s 4607182418800017408 == some .eq)=(!fN s && decide (fK s≤4607182418800017408)):=by
 rw [fo_le hs (by omega),show fN 4607182418800017408=false by decide,show fK 4607182418800017408=4607182418800017408 by decide];simp
end Go.Eng.Ga
namespace Go.Eng.Ga
open Go Go.Eng Ieee
variable [Inhabited GlobT]
attribute [local irreducible] OpR TL TD TC TS Ak
theorem at_bad (E C:List Nat) (n a lo hi s:Nat) (hs:W64 s) (hb:a=0∨inU s=false):Ak APg AcK [gv E C n a lo hi,fl s] (fl 9221120237041090561):=by
 have h1:=nan_ok
 have hge:=ge_zero hs
 have hle:=le_one hs
 refine Al (af:=Abl) rfl rfl ?_
 refine tS (tO (tR 2 rfl (tN (tS (tS (tO ?_))))))
 refine tR 4 rfl ?_
 by_cases ha:a=0
 ·rw [show ((a:Int) == 0)=true from by rw [ha];rfl]
  refine tR 8 rfl (tN ?_);refine AI (t:=true) rfl (fun _=>?_) (fun h=>nomatch h);refine tS (tO ?_)
  refine tC rfl rfl (h1) rfl rfl rfl rfl rfl rfl ?_;refine tR 1 rfl (tN ?_);exact tT (AS rfl ⟨_,fzO rfl⟩)
 ·have hb:inU s=false:=hb.resolve_left ha
  unfold inU at hb
  rw [show ((a:Int) == 0)=false from by simp;omega]
  refine tR 3 rfl ?_
  rw [hge]
  cases hq:(!fN s && decide (0≤fK s))
  ·refine tR 5 rfl (tN ?_);refine AI (t:=true) rfl (fun _=>?_) (fun h=>nomatch h);refine tS (tO ?_)
   refine tC rfl rfl (h1) rfl rfl rfl rfl rfl rfl ?_;refine tR 1 rfl (tN ?_);exact tT (AS rfl ⟨_,fzO rfl⟩)
  ·rw [hq,Bool.true_and] at hb
   have hn:fN s=false:=by cases h:fN s<;>simp [h] at hq ⊢
   rw [hn,hb] at hle
   refine tR 5 rfl (tN ?_)
   rw [hle]
   refine AI (t:=true) rfl (fun _=>?_) (fun h=>nomatch h);refine tS (tO ?_)
   refine tC rfl rfl (h1) rfl rfl rfl rfl rfl rfl ?_;refine tR 1 rfl (tN ?_);exact tT (AS rfl ⟨_,fzO rfl⟩)
theorem BbW (E C:List Nat) (n a lo hg s w:Nat) (hs:W64 s) (hb:a≠0) (hu:inU s=true) (hw:FloatKind.f64.format.mul s (f64 a)=some w) (hE:E.length<4294967296) (hC:C.length≤E.length+1)
 (hsum:(fillC E C).sum<4294967296) :
 Ak APg AcK [gv E C n a lo hg,fl s] (fl (if atI E (fillC E C) w<E.length then E.getD (atI E (fillC E C) w) 0 else infR)):=by
 have h1:=inf_ok
 have hge:=ge_zero hs
 have hle1:=le_one hs
 unfold inU at hu
 simp only [Bool.and_eq_true,Bool.not_eq_true',decide_eq_true_iff] at hu
 obtain⟨⟨u1,u2⟩,u3⟩:=hu
 rw [u1,decide_eq_true u2] at hge
 rw [u1,decide_eq_true u3] at hle1
 have hfl:(fillC E C).length=E.length+1:=by simp [fillC];omega
 have hm:abin .mul (fl s) (fl (f64 a))=some (fl w):=by show afltop .mul .f64 s (f64 a)=_;unfold afltop;rw [hw];rfl
 refine Al (af:=Abl) rfl rfl ?_
 refine tS (tO (tR 2 rfl (tN (tS (tS (tO ?_))))))
 refine tR 4 rfl ?_
 rw [show ((a:Int) == 0)=false from by simp;omega]
 refine tR 3 rfl ?_
 rw [hge]
 refine tR 5 rfl (tN ?_)
 rw [hle1]
 refine AI (t:=false) rfl (fun h=>nomatch h) (fun _=>?_);refine tK (tS (tO (tR 4 rfl ?_)))
 refine tP (oB rfl rfl hm) rfl rfl rfl rfl ?_
 refine tR 2 rfl (tN (tS (tK (tS (tS (tO ?_))))))
 refine tR 1 rfl ?_
 refine AlH hE hC rfl rfl rfl ?_
 refine tR 2 rfl (tN ?_)
 obtain⟨D,hD⟩:∃ D,fillC E C=D:=⟨_,rfl⟩
 rw [hD] at hfl hsum ⊢
 have hlD:(eu D).length=D.length:=List.length_map _
 refine tB (lST (σ:=Nat) (fun i=>D.length - i) (fun i=>[(2,.ptr 0 0 0),(4,.flt .f64 0),(5,fl w),(6,u6 (sumC D i)),(28,.view 2 0 (E.length+1) true),(29,.int .i64 ((E.length+1:Nat):Int)),(30,.int .i64 (i:Int))])
  (fun i S=>i≤D.length∧S=[some ⟨6,[gc E C n a lo hg]⟩,some ⟨6,[gc E C n a lo hg]⟩,some ⟨1,eu D⟩]∧∀ j,j<i→cnd D w j=false) 0 (by (repeat' (first | exact wN | refine wC rfl ?_))) ⟨by omega,rfl,fun j hj=>absurd hj (by omega)⟩ ?_)
 rintro i S ⟨hi,rfl,hbb⟩
 refine tS (tO (tR 1 rfl (tN (tS ?_))))
 refine tQ rfl decide_eq_true_iff (fun c=>tK ?_) (fun c=>tX ?_)
 ·have hi':i<D.length:=by omega
  have hss:=Asl hi'
  have hsb:=BcE D (i+1)
  refine tS ?_;refine tB ?_;refine tS (tO (tR 1 rfl ?_))
  refine tP (AE rfl rfl (by omega) rfl rfl) rfl rfl rfl rfl ?_;refine tP (AbO 0 rfl rfl (by omega) rfl) rfl rfl rfl rfl ?_
  refine tR 2 rfl (tN (tS (tO (tR 2 rfl ?_))))
  refine tP (Ait rfl rfl (AaA (by omega))) rfl rfl rfl rfl ?_;refine tR 1 rfl (tN (tS ?_));refine tB ?_
  refine tS (tO (tR 3 rfl ?_))
  rw [←hss]
  by_cases g0:sumC D (i+1)=0
  ·have hc:cnd D w i=false:=by unfold cnd;rw [decide_eq_false (by omega)];rfl
   rw [show (((sumC D (i+1):Nat):Int) == 0)=true from by rw [g0];rfl]
   refine tR 6 rfl (tN ?_);refine AI (t:=true) rfl (fun _=>?_) (fun h=>nomatch h);refine tX ?_;refine tO ?_
   refine tP (oA (b:=1) rfl rfl (by omega)) rfl rfl rfl rfl ?_;refine tR 1 rfl (tN ?_)
   refine⟨i+1,by omega,by (repeat' (first | exact wN | refine wC rfl ?_)),by omega,rfl,fun j hj=>?_⟩
   rcases Nat.lt_or_ge j i with k | k
   ·exact hbb j k
   ·have:j=i:=by omega
    subst this;exact hc
  ·rw [show (((sumC D (i+1):Nat):Int) == 0)=false from by simp;omega]
   refine tR 6 rfl (tN ?_)
   rw [show (FloatKind.f64.format.order (FloatKind.f64.nearest (sumC D (i+1):Int)) w == some .lt)=lessF (f64 (sumC D (i+1))) w from rfl]
   cases hq:lessF (f64 (sumC D (i+1))) w
   ·have hc:cnd D w i=true:=by unfold cnd;rw [decide_eq_true (by omega),hq];rfl
    rw [Baf (i:=i) (by omega) hbb (fun _=>hc)]
    have hle:(en E).length=E.length:=List.length_map _
    refine AI (t:=false) rfl (fun h=>nomatch h) (fun _=>?_);refine tS (tO (tR 6 rfl (tN ?_)))
    by_cases g1:i=E.length
    ·rw [show ((i:Int) == ((en E).length:Int))=true from by rw [hle,g1];exact beq_self_eq_true _,if_neg (by omega)]
     refine AI (t:=true) rfl (fun _=>?_) (fun h=>nomatch h);refine tX ?_;refine tS (tO ?_)
     refine tC rfl rfl (h1) rfl rfl rfl rfl rfl rfl ?_;refine tR 1 rfl (tN ?_);exact tT (AS rfl ⟨_,fzO rfl⟩)
    ·rw [show ((i:Int) == ((en E).length:Int))=false from by rw [hle];simp;omega,if_pos (by omega)]
     have g2:i<E.length:=by omega
     refine AI (t:=false) rfl (fun h=>nomatch h) (fun _=>?_);refine tK (tS (tO (tR 3 rfl ?_)))
     refine tP (Bl rfl rfl (AQ (d:=0) (by omega)) rfl) rfl rfl rfl rfl ?_;refine tR 2 rfl (tN ?_)
     exact tT (AS rfl ⟨_,fzO rfl⟩)
   ·have hc:cnd D w i=false:=by unfold cnd;rw [hq];simp
    refine AI (t:=true) rfl (fun _=>?_) (fun h=>nomatch h);refine tX ?_;refine tO ?_
    refine tP (oA (b:=1) rfl rfl (by omega)) rfl rfl rfl rfl ?_;refine tR 1 rfl (tN ?_)
    refine⟨i+1,by omega,by (repeat' (first | exact wN | refine wC rfl ?_)),by omega,rfl,fun j hj=>?_⟩
    rcases Nat.lt_or_ge j i with k | k
    ·exact hbb j k
    ·have:j=i:=by omega
     subst this;exact hc
 ·rw [Baf (i:=E.length) (by omega) (fun j hj=>hbb j (by omega)) (fun h=>absurd h (by omega)),if_neg (by omega)]
  refine tS (tO ?_);refine tC rfl rfl (h1) rfl rfl rfl rfl rfl rfl ?_;refine tR 1 rfl (tN ?_)
  exact tT (AS rfl ⟨_,fzO rfl⟩)
end Go.Eng.Ga
namespace Go.Eng.Ga
open Go Go.Eng Ieee
variable [Inhabited GlobT]
attribute [local irreducible] OpR TL TD TC TS Ak
theorem gOf_sp (E:List Nat) (l:List Nat):(spL l).b=decide ((gOf E l).a≠0)∧((gOf E l).a≠0→(gOf E l).lo=(spL l).lo∧(gOf E l).hi=(spL l).hi):=by
 have:∀ i,i≤l.length→(spL (l.take i)).b=decide ((gOf E (l.take i)).a≠0)∧((gOf E (l.take i)).a≠0→(gOf E (l.take i)).lo=(spL (l.take i)).lo∧(gOf E (l.take i)).hi=(spL (l.take i)).hi):=by
  intro i
  induction i with
  | zero=>intro _;rw [List.take_zero];exact⟨rfl,fun h=>absurd rfl h⟩
  | succ i ih =>
    intro hi
    obtain⟨h1,h2⟩:=ih (by omega)
    rw [Aqs E (by omega),ApO (by omega)]
    unfold addS spS
    split
    ·exact⟨h1,h2⟩
    ·refine⟨(decide_eq_true (by simp)).symm,fun _=>?_⟩
     dsimp only
     by_cases g:(gOf E (l.take i)).a=0
     ·rw [g] at h1
      rw [h1,if_pos g,if_pos g]
      exact⟨by unfold minF;simp,by unfold maxF;simp⟩
     ·rw [decide_eq_true g] at h1
      rw [h1,if_neg g,if_neg g,(h2 g).1,(h2 g).2]
      exact⟨rfl,rfl⟩
 have h:=this l.length (Nat.le_refl _)
 rwa [List.take_length] at h
theorem bump_sum {C:List Nat} {i:Nat} (h:i<C.length):(bump C i).sum=C.sum+1:=by
 have:∀ (C:List Nat) (i:Nat),i<C.length→(C.set i (C.getD i 0+1)).sum=C.sum+1:=by
  intro C
  induction C with
  | nil=>intro i h;simp at h
  | cons c C ih =>
    intro i h
    cases i with
    | zero=>simp [List.getD_eq_getElem?_getD];omega
    | succ i =>
      have:=ih i (by simpa using h)
      simp only [List.set_cons_succ,List.sum_cons,List.getD_cons_succ]
      omega
 exact this C i h
theorem cnt_sum (E l:List Nat):(cnt E l).1.sum=(cnt E l).2.2:=by
 have:∀ i,i≤l.length→(cnt E (l.take i)).1.sum=(cnt E (l.take i)).2.2:=by
  intro i
  induction i with
  | zero=>intro _;rw [List.take_zero];simp [cnt]
  | succ i ih =>
    intro hi
    have h1:=ih (by omega)
    have h2:=(AkQ E (l.take i)).len
    rw [ArM E (by omega)]
    unfold stp
    split
    ·exact h1
    ·show (bump _ _).sum=_+1
     rw [bump_sum (by have:=ApL E (l.getD i 0);omega),h1]
 have h:=this l.length (Nat.le_refl _)
 rwa [List.take_length] at h
end Go.Eng.Ga
namespace Go.Eng.Ga
open Go Go.Eng Ieee
variable [Inhabited GlobT]
attribute [local irreducible] OpR TL TD TC TS Ak
theorem inU_of {s:Nat} (h:inU s=true):fN s=false∧0≤fK s∧fK s≤4607182418800017408:=by
 unfold inU at h
 simp only [Bool.and_eq_true,Bool.not_eq_true',decide_eq_true_iff] at h
 exact⟨h.1.1,h.1.2,h.2⟩
theorem inU_r {s:Nat} (h:inU s=true):(fR s:Int)=fK s∧fR s<infR∧(fS s=true→fR s=0):=by
 obtain⟨h1,h2,h3⟩:=inU_of h
 unfold fK at h2 h3 ⊢
 unfold infR
 cases hs:fS s
 ·rw [hs] at h2 h3
  simp only [Bool.false_eq_true,if_false] at *
  exact⟨trivial,by omega,fun h=>by cases h⟩
 ·rw [hs] at h2 h3
  simp only [if_true] at *
  exact⟨by omega,by omega,fun _=>by omega⟩
theorem rounds_zero {U R:Nat} (h:AgF U 0 R):R=0:=by
 have hz:=AgF.exact (U:=U) 0
 rw [AlW,Nat.zero_mul] at hz
 exact h.uniq hz
theorem rmag_one {U:Nat} (hU:U=1100):rmag (fR 4607182418800017408)=2^U:=by
 obtain⟨e,he⟩:∃ e,e=1022:=⟨_,rfl⟩
 have h1:fR 4607182418800017408=e*4503599627370496+4503599627370496:=by rw [he];decide
 rw [h1,Aie _ e (by omega) (by omega),show (4503599627370496:Nat)=2^52 by decide,←Nat.pow_add]
 congr 1
 omega
theorem mul_in {s n:Nat} (hs:W64 s) (h:inU s=true) (hn:n<18446744073709551616) :
 ∃ R,FloatKind.f64.format.mul s (f64 n)=some (Ala (fS s) (min R infR))∧AgF 1100 (rmag (fR s)*rmag (f64 n)) R∧fK (Ala (fS s) (min R infR))=((min R infR:Nat):Int):=by
 obtain⟨r1,r2,r3⟩:=inU_r h
 have hb:=f64_bd hn
 obtain⟨q1,q2,q3⟩:=f64_r hn
 obtain⟨R,e,hr⟩:=mul_word hs (by unfold W64 at*;omega) r2 (t:=f64 n) (by rw [q1];unfold infR;omega)
 rw [q2,Bool.xor_false] at e
 rw [q1] at hr
 refine⟨R,e,hr,?_⟩
 unfold fK
 rw [fS_word (Nat.min_le_right _ _),fR_word (Nat.min_le_right _ _)]
 cases hq:fS s
 ·rfl
 ·have h0:=r3 hq
  rw [h0,AlW,Nat.zero_mul] at hr
  have:R=0:=rounds_zero hr
  subst this
  rw [Nat.zero_min];rfl
theorem mul_mono {s t n v w:Nat} (hs:W64 s) (ht:W64 t) (hu:inU s=true) (hv:inU t=true) (hst:fK s≤fK t) (hn:n<18446744073709551616)
 (e1:FloatKind.f64.format.mul s (f64 n)=some v) (e2:FloatKind.f64.format.mul t (f64 n)=some w):fK v≤fK w∧W64 v∧W64 w∧fN v=false∧fN w=false:=by
 obtain⟨R,a1,a2,a3⟩:=mul_in hs hu hn
 obtain⟨Q,b1,b2,b3⟩:=mul_in ht hv hn
 rw [a1] at e1
 rw [b1] at e2
 cases e1
 cases e2
 have hr:=(inU_r hu).1
 have hq:=(inU_r hv).1
 have hm:=a2.mono b2 (Nat.mul_le_mul_right _ (rmag_le (by omega)))
 rw [a3,b3]
 exact⟨by omega,fword_lt (Nat.min_le_right _ _),fword_lt (Nat.min_le_right _ _),fN_word (Nat.min_le_right _ _),fN_word (Nat.min_le_right _ _)⟩
theorem one_in:inU 4607182418800017408=true:=by decide
theorem mul_one {n:Nat} (hn:n<18446744073709551616):FloatKind.f64.format.mul 4607182418800017408 (f64 n)=some (f64 n):=by
 obtain⟨R,a1,a2,-⟩:=mul_in (s:=4607182418800017408) (by decide) one_in hn
 obtain⟨U,hU⟩:∃ U,U=1100:=⟨_,rfl⟩
 rw [←hU,rmag_one hU,Nat.mul_comm] at a2
 have hb:=f64_bd hn
 have:R=f64 n:=a2.uniq (AgF.exact _)
 rw [a1,this,show fS 4607182418800017408=false by decide]
 have h2:min (f64 n) infR=f64 n:=by unfold infR;omega
 rw [h2]
 unfold Ala
 rw [if_neg Bool.false_ne_true]
end Go.Eng.Ga
namespace Go.Eng.Ga
open Go Go.Eng Ieee
variable [Inhabited GlobT]
attribute [local irreducible] OpR TL TD TC TS Ak
def valI (E:List Nat) (i:Nat):Nat:=if i<E.length then E.getD i 0 else infR
theorem inf_w:W64 infR∧fN infR=false∧fK infR=9218868437227405312∧fT infR=9218868437227405312:=by decide
theorem nan_le {x:Nat} (h:fN x=false):fR x≤9218868437227405312:=fN_f.1 h
theorem fT_inf {x:Nat} (h:fN x=false):fT x≤9218868437227405312∧fK x≤9218868437227405312:=by
 have:=nan_le h
 unfold fT fK
 rw [h]
 simp only [Bool.false_eq_true,if_false]
 constructor<;>split<;>omega
theorem fT_K {x y:Nat} (hx:fN x=false) (hy:fN y=false) (h:fT x≤fT y):fK x≤fK y:=by
 unfold fT at h
 unfold fK
 rw [hx,hy] at h
 simp only [Bool.false_eq_true,if_false] at h
 generalize fS x=a at h ⊢
 generalize fS y=b at h ⊢
 cases a<;>cases b<;>simp only [Bool.false_eq_true,if_false,if_true] at h ⊢<;>omega
theorem valI_ok {E:List Nat} (h:OkE E) (i:Nat):W64 (valI E i)∧fN (valI E i)=false:=by
 unfold valI
 split
 ·rename_i hi
  refine⟨h.g i,h.n _ ?_⟩
  rw [List.getD_eq_getElem?_getD,List.getElem?_eq_getElem hi]
  exact List.getElem_mem hi
 ·exact⟨inf_w.1,inf_w.2.1⟩
theorem valI_mono {E:List Nat} (h:OkE E) {i j:Nat} (hij:i≤j):fK (valI E i)≤fK (valI E j):=by
 rcases Nat.lt_or_ge j E.length with g | g
 ·refine fT_K (valI_ok h i).2 (valI_ok h j).2 ?_
  unfold valI
  rw [if_pos (by omega),if_pos g]
  exact h.m hij g
 ·have e:valI E j=infR:=if_neg (by omega)
  rw [e,inf_w.2.2.1]
  exact(fT_inf (valI_ok h i).2).2
theorem findIdx_mono {p q:Nat→Bool} {l:List Nat} (h:∀ i,q i=true→p i=true):l.findIdx p≤l.findIdx q:=by
 refine Nat.le_of_not_lt fun hlt=>?_
 have hl:l.findIdx q<l.length:=Nat.lt_of_lt_of_le hlt List.findIdx_le_length
 have h1:=List.findIdx_getElem (p:=q) (xs:=l) (w:=hl)
 have h2:=List.not_of_lt_findIdx (p:=p) (xs:=l) hlt
 rw [h _ h1] at h2
 cases h2
theorem lessF_eq {n w:Nat} (hn:n<18446744073709551616) (hw:W64 w) (hN:fN w=false):lessF (f64 n) w=decide ((f64 n:Int)<fK w):=by
 obtain⟨h1,h2,h3⟩:=f64_r hn
 have hb:=f64_bd hn
 unfold lessF
 rw [fo_lt (by omega) hw,h3,hN]
 have:fK (f64 n)=(f64 n:Int):=by unfold fK;rw [h2,h1];rfl
 rw [this];rfl
theorem atI_mono {E C:List Nat} {v w:Nat} (hC:C.sum<18446744073709551616) (hv:W64 v) (hw:W64 w) (nv:fN v=false) (nw:fN w=false) (h:fK v≤fK w):atI E C v≤atI E C w:=by
 have:(List.range (E.length+1)).findIdx (cnd C v)≤(List.range (E.length+1)).findIdx (cnd C w):=findIdx_mono fun i hi=>by
  have hs:=BcE C (i+1)
  unfold cnd at hi ⊢
  rw [lessF_eq (by omega) hw nw] at hi
  rw [lessF_eq (by omega) hv nv]
  simp only [Bool.and_eq_true,decide_eq_true_iff,Bool.not_eq_true',decide_eq_false_iff_not] at hi ⊢
  exact⟨hi.1,by omega⟩
 unfold atI
 omega
theorem f64_small:((List.range 200).all fun n=>decide (f64 n<f64 (n+1)))=true:=by kernel_rfl
theorem f64_lt {n m:Nat} (h:n<m) (hm:m≤200):f64 n<f64 m:=by
 have step:∀ k,k<200→f64 k<f64 (k+1):=fun k hk=>of_decide_eq_true (List.all_eq_true.1 f64_small k (List.mem_range.2 hk))
 induction m with
 | zero=>omega
 | succ m ih =>
   have h1:=step m (by omega)
   rcases Nat.lt_or_ge n m with g | g
   ·have:=ih g (by omega);omega
   ·have:n=m:=by omega
    rw [this];exact h1
theorem getD_le_sum:∀ (C:List Nat) (j:Nat),C.getD j 0≤C.sum
 | [],j=>by simp
 | c::C,0=>by simp
 | c::C,j+1=>by
   have:=getD_le_sum C j
   simp only [List.getD_cons_succ,List.sum_cons];omega
theorem sumC_drop {C:List Nat} {i j:Nat} (hij:i<j):sumC C (i+1)+C.getD j 0≤C.sum:=by
 have h1:C.sum=sumC C (i+1)+(C.drop (i+1)).sum:=by
  unfold sumC
  rw [←List.sum_append,List.take_append_drop]
 have h2:C.getD j 0=(C.drop (i+1)).getD (j - (i+1)) 0:=by
  rw [List.getD_eq_getElem?_getD,List.getD_eq_getElem?_getD,List.getElem?_drop]
  congr 2;omega
 have h3:=getD_le_sum (C.drop (i+1)) (j - (i+1))
 omega
theorem bump_ge (C:List Nat) (i j:Nat):C.getD j 0≤(bump C i).getD j 0:=by
 unfold bump
 rw [List.getD_eq_getElem?_getD,List.getD_eq_getElem?_getD,List.getElem?_set]
 split
 ·rename_i h
  subst h
  split
  ·rw [List.getD_eq_getElem?_getD];simp
  ·rename_i h2
   rw [List.getElem?_eq_none (by omega)];simp
 ·exact Nat.le_refl _
theorem bump_at {C:List Nat} {i:Nat} (h:i<C.length):1≤(bump C i).getD i 0:=by
 unfold bump
 rw [List.getD_eq_getElem?_getD,List.getElem?_set,if_pos rfl,if_pos h];simp
theorem cnt_pos (E:List Nat) {l:List Nat} {x:Nat} (hx:x∈l) (hn:fN x=false):1≤(cnt E l).1.getD (stepN E x) 0:=by
 obtain⟨k,hk,rfl⟩:=List.getElem_of_mem hx
 have:∀ i,i≤l.length→k<i→1≤(cnt E (l.take i)).1.getD (stepN E l[k]) 0:=by
  intro i
  induction i with
  | zero=>intro _ h;omega
  | succ i ih =>
    intro hi hki
    rw [ArM E (by omega)]
    have hlen:=(AkQ E (l.take i)).len
    unfold stp
    rcases Nat.lt_or_ge k i with g | g
    ·have h1:=ih (by omega) g
     split
     ·exact h1
     ·exact Nat.le_trans h1 (bump_ge _ _ _)
    ·have:k=i:=by omega
     subst this
     have e:l.getD k 0=l[k]:=by rw [List.getD_eq_getElem?_getD,List.getElem?_eq_getElem hk];rfl
     rw [e,hn]
     exact bump_at (by have:=ApL E l[k];omega)
 have h:=this l.length (Nat.le_refl _) hk
 rwa [List.take_length] at h
theorem spL_mem (l:List Nat):(spL l).b=true→(spL l).hi∈l∧fN (spL l).hi=false:=by
 have:∀ i,i≤l.length→(spL (l.take i)).b=true→(spL (l.take i)).hi∈l∧fN (spL (l.take i)).hi=false:=by
  intro i
  induction i with
  | zero=>intro _ h;rw [List.take_zero] at h;cases h
  | succ i ih =>
    intro hi hb
    have hm:l.getD i 0∈l:=by
     rw [List.getD_eq_getElem?_getD,List.getElem?_eq_getElem (by omega)]
     exact List.getElem_mem _
    rw [ApO (by omega)] at hb ⊢
    unfold spS at hb ⊢
    split
    ·rename_i g
     rw [if_pos g] at hb
     exact ih (by omega) hb
    ·rename_i g
     have g:fN (l.getD i 0)=false:=by simpa using g
     dsimp only
     split
     ·rename_i hq
      unfold maxF
      split
      ·exact⟨hm,g⟩
      ·exact ih (by omega) hq
     ·exact⟨hm,g⟩
 have h:=this l.length (Nat.le_refl _)
 rwa [List.take_length] at h
theorem end_ok {E l:List Nat} (hE:OkE E) (hl:l.length≤200) {x:Nat} (hx:x∈l) (hn:fN x=false):fT x≤fT (valI E (atI E (cnt E l).1 (f64 (cnt E l).2.2))):=by
 have hk:=AkQ E l
 have hsum:=cnt_sum E l
 have hs:=hk.sum
 have hlen:=hk.len
 have hp:=cnt_pos E hx hn
 generalize cnt E l=c at *
 obtain⟨C,n,a⟩:=c
 dsimp only at hsum hs hlen hp ⊢
 obtain⟨w1,w2,w3⟩:=f64_r (n:=a) (by omega)
 have hwb:=f64_bd (n:=a) (by omega)
 have hKa:fK (f64 a)=(f64 a:Int):=by unfold fK;rw [w2,w1];rfl
 unfold valI
 split
 ·rename_i hi
  have hlt:(List.range (E.length+1)).findIdx (cnd C (f64 a))<E.length:=by unfold atI at hi;omega
  have hie:atI E C (f64 a)=(List.range (E.length+1)).findIdx (cnd C (f64 a)):=by unfold atI;omega
  have h1:=List.findIdx_getElem (p:=cnd C (f64 a)) (xs:=List.range (E.length+1)) (w:=by simp;omega)
  simp only [List.getElem_range] at h1
  rw [←hie] at h1 hlt
  generalize atI E C (f64 a)=i at *
  have hsl:=BcE C (i+1)
  unfold cnd at h1
  rw [lessF_eq (by omega) (by omega) w3,hKa] at h1
  simp only [Bool.and_eq_true,decide_eq_true_iff,Bool.not_eq_true',decide_eq_false_iff_not] at h1
  have hsa:sumC C (i+1)=a:=by
   rcases Nat.lt_or_ge (sumC C (i+1)) a with g | g
   ·have:=f64_lt g (by omega);omega
   ·omega
  have hst:stepN E x≤i:=by
   refine Nat.le_of_not_lt fun hgt=>?_
   have:=sumC_drop (C:=C) hgt
   omega
  have hsl2:stepN E x<E.length:=by omega
  have h2:fT x≤fT (E.getD (stepN E x) 0):=by
   have:=List.findIdx_getElem (p:=fun e=>decide (fT x≤fT e)) (xs:=E) (w:=hsl2)
   have e:E.getD (stepN E x) 0=E[stepN E x]:=by rw [List.getD_eq_getElem?_getD,List.getElem?_eq_getElem hsl2];rfl
   rw [e]
   exact of_decide_eq_true this
  have h3:=hE.m hst hlt
  omega
 ·rw [inf_w.2.2.2]
  exact(fT_inf hn).1
end Go.Eng.Ga
namespace Go.Eng.Ga
open Go Go.Eng Ieee
variable [Inhabited GlobT]
attribute [local irreducible] OpR TL TD TC TS Ak
theorem at_any {E l:List Nat} (hE:OkE E) (hL:∀ x∈l,W64 x) (hel:E.length≤1000) (hll:l.length≤200) (ha:(gOf E l).a≠0) (s:Nat) (hs:W64 s) :
 ∃ x,Ak APg AcK [gvs E (gOf E l),fl s] (fl x)∧W64 x∧(inU s=true→∃ w,FloatKind.f64.format.mul s (f64 (cnt E l).2.2)=some w∧x=valI E (atI E (cnt E l).1 w)):=by
 have hg:=gOf_ok E hL
 have hk:=AkQ E l
 have hcs:=cnt_sum E l
 have hsm:=hk.sum
 cases hu:inU s
 ·exact⟨_,at_bad E (gOf E l).C (gOf E l).n (gOf E l).a (gOf E l).lo (gOf E l).hi s hs (.inr hu),by decide,fun h=>by cases h⟩
 ·obtain⟨w,hw⟩:=mul_some hs hu (n:=(cnt E l).2.2) (by omega)
  have h:=BbW E (gOf E l).C (gOf E l).n (gOf E l).a (gOf E l).lo (gOf E l).hi s w hs ha hu (by rw [hg.c3];exact hw) (by omega) (by rcases hg.len with c | c<;>simp [c]) (by rw [hg.c1];omega)
  rw [hg.c1] at h
  exact⟨_,h,(valI_ok hE _).1,fun _=>⟨w,hw,rfl⟩⟩
theorem shares_law (E l:List Nat) (s t:Nat) (hE:∀ x∈E,W64 x) (hL:∀ x∈l,W64 x) (hs:W64 s) (ht:W64 t):Ak APg f_l30_GaugeShares [.imm (en E),.imm (en l),fl s,fl t] (.bool true):=by
 have hle:(en E).length=E.length:=List.length_map _
 have hll':(en l).length=l.length:=List.length_map _
 refine Al (af:=c_l30_GaugeShares) rfl rfl ?_
 refine tS (tO (tR 1 rfl (tN (tS (tS (tO ?_))))))
 refine tR 2 rfl (tN ?_);refine AI (t:=false) rfl (fun h=>nomatch h) (fun _=>?_);refine tK (tS ?_)
 refine tS (tO (tR 4 rfl ?_))
 by_cases c1:20<E.length
 ·rw [show decide (((en E).length:Int)>20)=true from decide_eq_true (by omega)]
  refine tR 9 rfl (tN ?_);refine AI (t:=true) rfl (fun _=>?_) (fun h=>nomatch h);refine tS (tO ?_)
  refine tR 1 rfl (tN ?_);exact tT (AS rfl ⟨_,fzO rfl⟩)
 rw [show decide (((en E).length:Int)>20)=false from decide_eq_false (by omega)]
 refine tR 5 rfl ?_
 by_cases c2:200<l.length
 ·rw [show decide (((en l).length:Int)>200)=true from decide_eq_true (by omega)]
  refine tR 4 rfl (tN ?_);refine AI (t:=true) rfl (fun _=>?_) (fun h=>nomatch h);refine tS (tO ?_)
  refine tR 1 rfl (tN ?_);exact tT (AS rfl ⟨_,fzO rfl⟩)
 rw [show decide (((en l).length:Int)>200)=false from decide_eq_false (by omega)]
 have hrn:=rNew_ok E hE (by omega)
 refine tR 1 rfl ?_
 refine tC rfl (by simp [Zv.closed,Aj,Ao,cLm,cLLm]) (hrn) (by simp [Zv.noref,Zv.flat,norefL,Aab,nLm,nLLm]) rfl rfl rfl rfl rfl ?_
 refine tR 2 rfl (tN ?_)
 by_cases he:errN E=0
 ·obtain⟨hok,hel⟩:=errN_ok hE he
  have hnw:=nNew_ok E hE (by omega) he
  have hof:=of_gen E E l 0 (by omega) hL hok (by omega) hnw
  have hg:=gOf_ok E hL
  rw [show ((errN E:Int) != 0)=false from by rw [he];rfl]
  have htl:=total_ok E (gOf E l).C (gOf E l).n (gOf E l).a (gOf E l).lo (gOf E l).hi
  by_cases ha:(gOf E l).a=0
  ·have h1:=at_bad E (gOf E l).C (gOf E l).n (gOf E l).a (gOf E l).lo (gOf E l).hi s hs (.inl ha)
   have h2:=at_bad E (gOf E l).C (gOf E l).n (gOf E l).a (gOf E l).lo (gOf E l).hi t ht (.inl ha)
   refine AI (t:=false) rfl (fun h=>nomatch h) (fun _=>?_);refine tK (tS (tO (tR 2 rfl ?_)))
   refine tC rfl (by simp [Zv.closed,Aj,Ao,cLm,cLLm]) (hof) (by simp [Zv.noref,Zv.flat,norefL,Aab,nLm,nLLm]) rfl rfl rfl rfl rfl ?_
   refine tR 6 rfl (tN (tS ?_));refine AfW ?_;refine AV rfl ?_;refine dR 2 rfl ?_
   refine AF rfl (by simp [Zv.closed,Aj,Ao,cLm,cLLm]) (h1) (by simp [Zv.noref,Zv.flat,norefL,Aab,nLm,nLLm]) rfl rfl rfl rfl ?_
   refine dR 2 rfl (dN ?_);refine⟨rfl,?_⟩;refine Am ?_
   refine tC rfl (by simp [Zv.closed,Aj,Ao,cLm,cLLm]) (h2) (by simp [Zv.noref,Zv.flat,norefL,Aab,nLm,nLLm]) rfl rfl rfl rfl rfl ?_
   refine tN ?_;refine Am ?_;refine tR 1 rfl (tN ?_);refine Am ?_;refine tR 1 rfl (tN ?_)
   refine Aos ?_;refine tS (tS (tO (tR 1 rfl ?_)))
   refine tC rfl (by simp [Zv.closed,Aj,Ao,cLm,cLLm]) (htl) (by simp [Zv.noref,Zv.flat,norefL,Aab,nLm,nLLm]) rfl rfl rfl rfl rfl ?_
   refine tR 1 rfl (tN ?_)
   rw [show (((gOf E l).a:Int) == 0)=true from by rw [ha];rfl]
   refine AI (t:=true) rfl (fun _=>?_) (fun h=>nomatch h);refine tS (tO (tR 9 rfl (tN ?_)))
   exact tT (AS rfl ⟨_,fzO rfl⟩)
  ·obtain⟨x,h1,wx,px⟩:=at_any hok hL (by omega) (by omega) ha s hs
   obtain⟨y,h2,wy,py⟩:=at_any hok hL (by omega) (by omega) ha t ht
   obtain⟨z,h3,wz,pz⟩:=at_any hok hL (by omega) (by omega) ha 4607182418800017408 (by decide)
   have hsp:=span_ok E (gOf E l).C (gOf E l).n (gOf E l).a (gOf E l).lo (gOf E l).hi
   rw [spanV,if_neg ha] at hsp
   have hk:=AkQ E l
   have hcs:=cnt_sum E l
   have hsm:=hk.sum
   have hend:cmpF (gOf E l).hi z≤0:=by
    obtain⟨w,e1,rfl⟩:=pz one_in
    rw [mul_one (by omega)] at e1
    cases e1
    obtain⟨b1,b2⟩:=gOf_sp E l
    rw [decide_eq_true ha] at b1
    obtain⟨m1,m2⟩:=spL_mem l b1
    have:=end_ok (E:=E) hok (by omega) m1 m2
    rw [←(b2 ha).2] at this
    have hc:=cmp_le (a:=(gOf E l).hi) (b:=valI E (atI E (cnt E l).1 (f64 (cnt E l).2.2)))
    rw [decide_eq_true this] at hc
    exact of_decide_eq_true hc
   have hcp:=AkR (gOf E l).hi z hg.oh wz
   have hle2:inU s=true→inU t=true→fK s≤fK t→(FloatKind.f64.format.order x y == some .lt || FloatKind.f64.format.order x y == some .eq)=true:=by
    intro u1 u2 hst
    obtain⟨w,e1,rfl⟩:=px u1
    obtain⟨v,e2,rfl⟩:=py u2
    obtain⟨k1,k2,k3,k4,k5⟩:=mul_mono hs ht u1 u2 hst (by omega) e1 e2
    have hm:=atI_mono (E:=E) (C:=(cnt E l).1) (by omega) k2 k3 k4 k5 k1
    have hv:=valI_mono hok hm
    rw [fo_le wx wy,(valI_ok hok _).2,(valI_ok hok _).2,decide_eq_true hv];rfl
   have hge:=ge_zero hs
   have hst:=fo_le hs ht
   have hone:=le_one ht
   refine AI (t:=false) rfl (fun h=>nomatch h) (fun _=>?_);refine tK (tS (tO (tR 2 rfl ?_)))
   refine tC rfl (by simp [Zv.closed,Aj,Ao,cLm,cLLm]) (hof) (by simp [Zv.noref,Zv.flat,norefL,Aab,nLm,nLLm]) rfl rfl rfl rfl rfl ?_
   refine tR 6 rfl (tN (tS ?_));refine AfW ?_;refine AV rfl ?_;refine dR 2 rfl ?_
   refine AF rfl (by simp [Zv.closed,Aj,Ao,cLm,cLLm]) (h1) (by simp [Zv.noref,Zv.flat,norefL,Aab,nLm,nLLm]) rfl rfl rfl rfl ?_
   refine dR 2 rfl (dN ?_);refine⟨rfl,?_⟩;refine Am ?_
   refine tC rfl (by simp [Zv.closed,Aj,Ao,cLm,cLLm]) (h2) (by simp [Zv.noref,Zv.flat,norefL,Aab,nLm,nLLm]) rfl rfl rfl rfl rfl ?_
   refine tN ?_;refine Am ?_;refine tR 1 rfl (tN ?_);refine Am ?_;refine tR 1 rfl (tN ?_)
   refine Aos ?_;refine tS (tS (tO (tR 1 rfl ?_)))
   refine tC rfl (by simp [Zv.closed,Aj,Ao,cLm,cLLm]) (htl) (by simp [Zv.noref,Zv.flat,norefL,Aab,nLm,nLLm]) rfl rfl rfl rfl rfl ?_
   refine tR 1 rfl (tN ?_)
   rw [show (((gOf E l).a:Int) == 0)=false from by simp;omega]
   refine AI (t:=false) rfl (fun h=>nomatch h) (fun _=>?_);refine tK (tS (tS (tO ?_)))
   refine tR 3 rfl ?_
   rw [hge]
   cases q1:(!fN s && decide (0≤fK s))
   ·refine tR 14 rfl (tN ?_);refine AI (t:=false) rfl (fun h=>nomatch h) (fun _=>?_);refine tK (tS ?_)
    refine tO (tR 1 rfl ?_)
    refine tC rfl (by simp [Zv.closed,Aj,Ao,cLm,cLLm]) (hsp) (by simp [Zv.noref,Zv.flat,norefL,Aab,nLm,nLLm]) rfl rfl rfl rfl rfl ?_
    refine tR 5 rfl (tN (tS (tO (tR 1 rfl ?_))))
    refine tC rfl (by simp [Zv.closed,Aj,Ao,cLm,cLLm]) (h3) (by simp [Zv.noref,Zv.flat,norefL,Aab,nLm,nLLm]) rfl rfl rfl rfl rfl ?_
    refine tR 1 rfl (tN (tS (tO (tR 2 rfl ?_))))
    refine tC rfl rfl (hcp) rfl rfl rfl rfl rfl rfl ?_;refine tR 2 rfl (tN ?_)
    rw [decide_eq_true hend]
    exact tT (AS rfl ⟨_,fzO rfl⟩)
   ·refine tR 5 rfl ?_
    rw [hst]
    cases q2:(!fN s && !fN t && decide (fK s≤fK t))
    ·refine tR 9 rfl (tN ?_);refine AI (t:=false) rfl (fun h=>nomatch h) (fun _=>?_);refine tK (tS ?_)
     refine tO (tR 1 rfl ?_)
     refine tC rfl (by simp [Zv.closed,Aj,Ao,cLm,cLLm]) (hsp) (by simp [Zv.noref,Zv.flat,norefL,Aab,nLm,nLLm]) rfl rfl rfl rfl rfl ?_
     refine tR 5 rfl (tN (tS (tO (tR 1 rfl ?_))))
     refine tC rfl (by simp [Zv.closed,Aj,Ao,cLm,cLLm]) (h3) (by simp [Zv.noref,Zv.flat,norefL,Aab,nLm,nLLm]) rfl rfl rfl rfl rfl ?_
     refine tR 1 rfl (tN (tS (tO (tR 2 rfl ?_))))
     refine tC rfl rfl (hcp) rfl rfl rfl rfl rfl rfl ?_;refine tR 2 rfl (tN ?_)
     rw [decide_eq_true hend]
     exact tT (AS rfl ⟨_,fzO rfl⟩)
    ·refine tR 4 rfl ?_
     rw [hone]
     cases q3:(!fN t && decide (fK t≤4607182418800017408))
     ·refine tR 5 rfl (tN ?_);refine AI (t:=false) rfl (fun h=>nomatch h) (fun _=>?_);refine tK (tS ?_)
      refine tO (tR 1 rfl ?_)
      refine tC rfl (by simp [Zv.closed,Aj,Ao,cLm,cLLm]) (hsp) (by simp [Zv.noref,Zv.flat,norefL,Aab,nLm,nLLm]) rfl rfl rfl rfl rfl ?_
      refine tR 5 rfl (tN (tS (tO (tR 1 rfl ?_))))
      refine tC rfl (by simp [Zv.closed,Aj,Ao,cLm,cLLm]) (h3) (by simp [Zv.noref,Zv.flat,norefL,Aab,nLm,nLLm]) rfl rfl rfl rfl rfl ?_
      refine tR 1 rfl (tN (tS (tO (tR 2 rfl ?_))))
      refine tC rfl rfl (hcp) rfl rfl rfl rfl rfl rfl ?_;refine tR 2 rfl (tN ?_)
      rw [decide_eq_true hend]
      exact tT (AS rfl ⟨_,fzO rfl⟩)
     ·simp only [Bool.and_eq_true,Bool.not_eq_true',decide_eq_true_iff] at q1 q2 q3
      have u1:inU s=true:=by
       unfold inU
       rw [q1.1,decide_eq_true q1.2,decide_eq_true (by omega)];rfl
      have u2:inU t=true:=by
       unfold inU
       rw [q3.1,decide_eq_true (by omega),decide_eq_true q3.2];rfl
      refine tR 5 rfl (tN ?_)
      rw [hle2 u1 u2 q2.2]
      refine AI (t:=false) rfl (fun h=>nomatch h) (fun _=>?_);refine tK (tS (tO (tR 1 rfl ?_)))
      refine tC rfl (by simp [Zv.closed,Aj,Ao,cLm,cLLm]) (hsp) (by simp [Zv.noref,Zv.flat,norefL,Aab,nLm,nLLm]) rfl rfl rfl rfl rfl ?_
      refine tR 5 rfl (tN (tS (tO (tR 1 rfl ?_))))
      refine tC rfl (by simp [Zv.closed,Aj,Ao,cLm,cLLm]) (h3) (by simp [Zv.noref,Zv.flat,norefL,Aab,nLm,nLLm]) rfl rfl rfl rfl rfl ?_
      refine tR 1 rfl (tN (tS (tO (tR 2 rfl ?_))))
      refine tC rfl rfl (hcp) rfl rfl rfl rfl rfl rfl ?_;refine tR 2 rfl (tN ?_)
      rw [decide_eq_true hend]
      exact tT (AS rfl ⟨_,fzO rfl⟩)
 ·rw [show ((errN E:Int) != 0)=true from by simp;omega]
  refine AI (t:=true) rfl (fun _=>?_) (fun h=>nomatch h);refine tS (tO (tR 1 rfl (tN ?_)))
  exact tT (AS rfl ⟨_,fzO rfl⟩)
end Go.Eng.Ga
namespace Go.Eng.Ga
open Go Go.Eng Go.RowKit Go.ChangeShapes Go.WideShapes
variable [Inhabited GlobT]
theorem words_of:∀ (rows:List (List Zv)),(∀ r∈rows,AhL [.flt .f64] r)→∃ E:List Nat,rows=E.map (fun w=>[fl w])∧∀ x∈E,W64 x
 | [],_=>⟨[],rfl,fun x h=>by cases h⟩
 | r::rows,h=>by
   obtain⟨E,rfl,hE⟩:=words_of rows fun r hr=>h r (List.mem_cons_of_mem _ hr)
   have h0:=h r (List.mem_cons_self ..)
   simp only [AhL,ShpA] at h0
   obtain⟨_,_,rfl,⟨w,rfl,hw⟩,rfl⟩:=h0
   refine⟨w::E,rfl,fun x hx=>?_⟩
   rcases List.mem_cons.1 hx with rfl | hx
   ·exact of_decide_eq_true hw
   ·exact hE x hx
end Go.Eng.Ga
