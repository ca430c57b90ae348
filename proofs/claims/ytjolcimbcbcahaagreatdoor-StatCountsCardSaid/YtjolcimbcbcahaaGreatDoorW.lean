/- The law's functions are walked: what each answers; no condition. -/
import Derived.Test.YtjolcimbcbcahaaGreatDoorC1
import Derived.Test.YtjolcimbcbcahaaGreatDoorE6
import Derived.Test.YtjolcimbcbcahaaGreatDoorV
import Derived.KernelRfl
import Derived.Test.YtjolcimbcbcahaaGreatDoorE4
set_option linter.unusedSectionVars false
set_option linter.unusedVariables false
set_option linter.unusedSimpArgs false
set_option linter.unnecessarySimpa false
namespace Go.Eng.St
abbrev AlM:Nat:=10
abbrev Aub:Nat:=50
abbrev ApO:Nat:=54
abbrev Ans:Nat:=60
abbrev Aes:Nat:=55
abbrev Abu:Nat:=51
abbrev Azr:Nat:=56
abbrev Afw:Nat:=62
abbrev Adf:Nat:=63
abbrev Ack:Nat:=61
abbrev AbT:Nat:=64
abbrev Afv:Nat:=52
abbrev Aks:Nat:=65
abbrev AcH:Nat:=24
abbrev Agj:Nat:=66
abbrev Agi:Nat:=53
abbrev Abz:Nat:=132
abbrev AgM:Nat:=67
abbrev AhX:Nat:=134
abbrev Akr:Nat:=18
abbrev ApL:Nat:=82
abbrev Aer:Nat:=77
abbrev Afz:Nat:=76
abbrev AdC:Nat:=78
abbrev AgR:Nat:=84
abbrev AeO:Nat:=31
abbrev AhJ:Nat:=142
abbrev Aet:Nat:=141
abbrev AcI:Nat:=143
abbrev BaO:Nat:=59
abbrev AwC:Nat:=49
abbrev AgL:Nat:=133
abbrev Agn:Nat:=136
abbrev AeP:Nat:=137
end Go.Eng.St
namespace Go.Eng.St
open Go Go.Eng
def AjO:Aam := .seq (.ops [mv 18 1,i1 19 (.len true (.t 18)),mv 20 2,i1 21 (.len true (.t 20)),i1 22 (.maxI [(.t 19),(.t 21)]),i1 23 (.bin .gtr (.t 22) (k6 100))]) (.cond (.t 23) (.seq (.ops [i1 8 (.move (.c (.bool true)))]) (.ret)) (.skip))
def AjN:Aam := .seq (.drawS [[i1 54 (.load true 14 (.t 9)),mu 55 10 [0]],[i1 56 (cf Azr [(.t 54),(.t 55)])],[mv 57 56],[ig 58 (.load true 14 (.t 9)) 57 true],[ig 59 (cf Afw [(.t 58)]) 57 true],[ig 60 (cf Adf []) 57 true],[ig 61 (cf Ack [(.t 59),(.t 60)]) 57 true],[i1 62 (.pick (.t 57) (.t 61) (.c (.bool false)))],[mv 63 62],[ig 64 (.move (.t 15)) 63 true,⟨(some 65),(cf Adf []),some (63,true),[10]⟩,⟨(some 66),(.move (.t 1)),some (63,true),[10,11]⟩,⟨(some 67),(cf AbT [(.t 65),(.t 66)]),some (63,true),[10]⟩],[ig 68 (.eqB false (.t 64) (.t 67)) 63 true],[i1 69 (.pick (.t 63) (.t 68) (.c (.bool false)))],[mv 70 69],[ig 71 (.load true 14 (.t 9)) 70 true,⟨(some 72),(.move (.t 1)),some (70,true),[17]⟩,⟨(some 73),(.move (.t 2)),some (70,true),[17,18]⟩,ig 74 (cf Afv [(.t 71),(.t 72),(.t 73)]) 70 true,⟨(some 75),(.move (.t 11)),some (70,true),(ub 17 4)⟩,⟨(some 76),(.move (.t 12)),some (70,true),(ub 17 5)⟩],[ig 77 (cf Aks [(.t 75),(.t 76)]) 70 true],[ig 78 (cf AcH [(.t 74),(.t 77)]) 70 true],[i1 79 (.pick (.t 70) (.t 78) (.c (.bool false)))],[mv 80 79],[ig 81 (.load true 14 (.t 9)) 80 true,ig 82 (cf Agj [(.t 81)]) 80 true,⟨(some 83),(.move (.t 13)),some (80,true),[27,28]⟩,⟨(some 84),(.faddr 8 (.t 4)),some (80,true),[27,28,29]⟩,⟨(some 85),(.load false 1 (.t 84)),some (80,true),[27,28,29]⟩],[ig 86 (cf Aks [(.t 83),(.t 85)]) 80 true],[ig 87 (cf AcH [(.t 82),(.t 86)]) 80 true],[i1 88 (.pick (.t 80) (.t 87) (.c (.bool false)))],[mv 89 88],[ig 90 (.load true 14 (.t 9)) 89 true,⟨(some 91),(.move (.t 1)),some (89,true),[36]⟩,⟨(some 92),(.move (.t 3)),some (89,true),[36,37]⟩,ig 93 (cf Agi [(.t 90),(.t 91),(.t 92)]) 89 true,⟨(some 94),(.move (.t 11)),some (89,true),(ub 36 4)⟩,⟨(some 95),(.conv (.flt .f64) (.t 94)),some (89,true),(ub 36 4)⟩,⟨(some 96),(.move (.t 3)),some (89,true),(ub 36 6)⟩,⟨(some 97),(.conv (.flt .f64) (.t 96)),some (89,true),(ub 36 6)⟩,⟨(some 98),(.bin .quo (.t 95) (.t 97)),some (89,true),(ub 36 4)⟩],[ig 99 (cf AcH [(.t 93),(.t 98)]) 89 true],[i1 100 (.pick (.t 89) (.t 99) (.c (.bool false)))],[mv 8 100]]) (.ret)
def AjM:Aam := .seq (.ops [i1 49 (.load true 14 (.t 9)),mv 50 1,i1 51 (cf Abu [(.t 49),(.t 50)]),mv 48 51,i1 52 (.extract (.t 48) 0),i1 53 (.extract (.t 48) 1),mv 14 52,mv 15 53]) (AjN)
def AjL:Aam := .seq (.drawS [[i1 34 (.faddr 3 (.t 4)),i1 35 (.load false 1 (.t 34)),iu 36 (.faddr 4 (.t 4)) [0,1],iu 37 (.load false 1 (.t 36)) [0,1],i1 38 (cf Aes [(.t 35),(.t 37)]),iu 39 (.faddr 5 (.t 4)) (ur 5),iu 40 (.load false 1 (.t 39)) (ur 5),i1 41 (cf Aes [(.t 38),(.t 40)]),iu 42 (.faddr 6 (.t 4)) (ur 8),iu 43 (.load false 1 (.t 42)) (ur 8),i1 44 (cf Aes [(.t 41),(.t 43)]),iu 45 (.faddr 7 (.t 4)) (ur 11),iu 46 (.load false 1 (.t 45)) (ur 11)],[i1 47 (cf Aes [(.t 44),(.t 46)])],[mv 13 47]]) (AjM)
def AjK:Aam := .seq (.ops [mv 28 10,mv 29 1,i1 30 (cf Ans [(.t 28),(.t 29)]),mv 31 10,mv 32 2,i1 33 (cf Ans [(.t 31),(.t 32)]),mv 11 30,mv 12 33]) (AjL)
def AjJ:Aam := .seq (.draw [i1 24 (.load true 14 (.t 4)),i1 25 (cf Aub [(.t 24)]),iu 26 (.load true 14 (.t 4)) [0,1],i1 27 (cf ApO [(.t 26)]),iu 9 (.alloc (zs .u64 14)) (ur 4),i0 (.store 14 (.t 9) (.t 25)),mv 10 27]) (AjK)
def AjI:Aam := .seq (.seq (.ops [i1 16 (cf AwC []),i1 17 (.un .not (.t 16))]) (.cond (.t 17) (.seq (.ops [i1 8 (.move (.c (.bool false)))]) (.ret)) (.skip))) (.seq (AjO) (AjJ))
def AdS:AFunc:=⟨4,101,[.tmp 8],
 .seq (.ops [i1 4 (.box 14 (.t 0)),i1 8 (.move (.c (.bool false)))]) (AjI)⟩
def AwE:Aam := .seq (.ops [i1 3 (.faddr 0 (.t 1)),i1 4 (.load false 1 (.t 3)),i1 5 (.faddr 1 (.t 1)),i1 6 (.load false 1 (.t 5)),i1 7 (.faddr 2 (.t 1)),i1 8 (.load false 1 (.t 7)),i1 9 (.faddr 3 (.t 1)),i1 10 (.load false 1 (.t 9)),i1 11 (.faddr 4 (.t 1)),i1 12 (.load false 1 (.t 11)),i1 13 (.faddr 5 (.t 1)),i1 14 (.load false 1 (.t 13)),i1 15 (.faddr 6 (.t 1)),i1 16 (.load false 1 (.t 15)),i1 17 (.faddr 7 (.t 1)),i1 18 (.load false 1 (.t 17)),i1 19 (.faddr 8 (.t 1)),i1 20 (.load false 1 (.t 19)),i1 21 (.faddr 9 (.t 1)),i1 22 (.load false 1 (.t 21)),i1 23 (.faddr 10 (.t 1)),i1 24 (.load false 1 (.t 23)),i1 25 (.faddr 11 (.t 1)),i1 26 (.load false 1 (.t 25)),i1 27 (.faddr 12 (.t 1)),i1 28 (.load false 1 (.t 27)),i1 29 (.faddr 13 (.t 1)),i1 30 (.load false 1 (.t 29)),i1 31 (.build (zs .u64 14) [((0,1),(.t 4)),((1,1),(.t 6)),((2,1),(.t 8)),((3,1),(.t 10)),((4,1),(.t 12)),((5,1),(.t 14)),((6,1),(.t 16)),((7,1),(.t 18)),((8,1),(.t 20)),((9,1),(.t 22)),((10,1),(.t 24)),((11,1),(.t 26)),((12,1),(.t 28)),((13,1),(.t 30))]),i1 32 (.build (zs .u64 14) [((0,14),(.t 31))]),i0 (.store 14 (.t 2) (.t 32))]) (.ret)
def AnW:AFunc:=⟨1,33,[.cell 2 true 14],
 .seq (.ops [i1 1 (.box 14 (.t 0)),i1 2 (.alloc (zs .u64 14))]) (AwE)⟩
def AuT:Aam := .seq (.ops [i1 3 (.faddr 0 (.t 1)),i1 4 (.load false 1 (.t 3)),i1 5 (.faddr 1 (.t 1)),i1 6 (.load false 1 (.t 5)),i1 7 (.faddr 2 (.t 1)),i1 8 (.load false 1 (.t 7)),i1 9 (.faddr 3 (.t 1)),i1 10 (.load false 1 (.t 9)),i1 11 (.faddr 4 (.t 1)),i1 12 (.load false 1 (.t 11)),i1 13 (.faddr 5 (.t 1)),i1 14 (.load false 1 (.t 13)),i1 15 (.faddr 6 (.t 1)),i1 16 (.load false 1 (.t 15)),i1 17 (.faddr 7 (.t 1)),i1 18 (.load false 1 (.t 17)),i1 19 (.faddr 8 (.t 1)),i1 20 (.load false 1 (.t 19)),i1 21 (.faddr 9 (.t 1)),i1 22 (.load false 1 (.t 21)),i1 23 (.faddr 10 (.t 1)),i1 24 (.load false 1 (.t 23)),i1 25 (.faddr 11 (.t 1)),i1 26 (.load false 1 (.t 25)),i1 27 (.faddr 12 (.t 1)),i1 28 (.load false 1 (.t 27)),i1 29 (.faddr 13 (.t 1)),i1 30 (.load false 1 (.t 29)),i1 31 (.buildSlice [(.int .u64 0)] 1 14 [(0,(.t 4)),(1,(.t 6)),(2,(.t 8)),(3,(.t 10)),(4,(.t 12)),(5,(.t 14)),(6,(.t 16)),(7,(.t 18)),(8,(.t 20)),(9,(.t 22)),(10,(.t 24)),(11,(.t 26)),(12,(.t 28)),(13,(.t 30))]),mv 2 31]) (.ret)
def AkV:AFunc:=⟨1,32,[.tmp 2],
 .seq (.ops [i1 1 (.box 14 (.t 0)),i1 2 (.move (.c .nils))]) (AuT)⟩
def AwO:Aam := .seq (.ops [mv 14 6,mv 15 1,i1 16 (.bin .eql (.t 14) (.t 15))]) (.cond (.t 16) (.seq (.ops [mv 17 0,mv 18 5,i1 19 (.iaddr 1 (.t 17) (.t 18)),i1 20 (.load false 1 (.t 19)),mv 4 20]) (.ret)) (.skip))
def AwN:Aam := .seq (.block 1 (.seq (.ops [mv 11 9,i1 12 (.iaddr 1 (.t 7) (.t 9)),i1 13 (.load false 1 (.t 12)),mv 5 11,mv 6 13]) (AwO))) (.ops [i1 21 (.bin .add (.t 9) (k6 1)),mv 9 21])
def AwM:Aam := .seq (.ops [i1 7 (cf Adf []),i1 8 (.len false (.t 7)),i1 9 (.move (k6 0))]) (.block 0 (.loop (.seq (.ops [i1 10 (.bin .lss (.t 9) (.t 8))]) (.seq (.cond (.t 10) (.skip) (.exit 0)) (AwN)))))
def AnY:AFunc:=⟨2,22,[.tmp 4],
 .seq (.ops [i1 4 (.move (.c (.int .u64 0)))]) (.seq (AwM) (.seq (.ops [i1 4 (.move (.c (.int .u64 0)))]) (.ret)))⟩
def Asc:Aam := .seq (.ops [mv 5 0,mv 6 1,i1 7 (.bin .add (.t 5) (.t 6)),mv 8 0,i1 9 (.bin .lss (.t 7) (.t 8))]) (.cond (.t 9) (.seq (.ops [i1 4 (.move (.c (.int .u64 18446744073709551615)))]) (.ret)) (.skip))
def AiD:AFunc:=⟨2,13,[.tmp 4],
 .seq (.ops [i1 4 (.move (.c (.int .u64 0)))]) (.seq (Asc) (.seq (.ops [mv 10 0,mv 11 1,i1 12 (.bin .add (.t 10) (.t 11)),mv 4 12]) (.ret)))⟩
def AkE:Aam := .seq (.ops [mv 10 6,i1 11 (.bin .lss (.t 10) (k6 0))]) (.cond (.t 11) (.seq (.ops [i1 4 (.move (.c (.int .u64 0))),i1 5 (.move (.c (.bool false)))]) (.ret)) (.skip))
def AkD:Aam := .seq (.ops [mv 12 6,i1 13 (.faddr 0 (.t 2)),i1 14 (.iaddrArr 14 1 (.t 13) (.t 12)),i1 15 (.load false 1 (.t 14)),mv 4 15,i1 5 (.move (.c (.bool true)))]) (.ret)
def Ada:AFunc:=⟨2,16,[.tmp 4,.tmp 5],
 .seq (.ops [i1 2 (.box 14 (.t 0)),i1 4 (.move (.c (.int .u64 0))),i1 5 (.move (.c (.bool false)))]) (.seq (.ops [i1 7 (cf AgL []),mv 8 1,i1 9 (cf Abz [(.t 7),(.t 8)]),mv 6 9]) (.seq (AkE) (AkD)))⟩
def Bbh:Aam := .seq (.ops [mv 25 9,i1 26 (.un .not (.t 25)),mv 27 26,ig 28 (.move (.t 8)) 27 false,ig 29 (.move (.t 1)) 27 false,ig 30 (.move (.t 6)) 27 false,ig 31 (.iaddr 1 (.t 29) (.t 30)) 27 false,ig 32 (.load false 1 (.t 31)) 27 false,ig 33 (.bin .neq (.t 28) (.t 32)) 27 false,i1 34 (.pick (.t 27) (.c (.bool true)) (.t 33))]) (.cond (.t 34) (.seq (.ops [i1 4 (.move (.c (.bool false)))]) (.ret)) (.skip))
def Bbg:Aam := .seq (.draw [mv 35 1,mu 36 6 [0],i1 37 (.iaddr 1 (.t 35) (.t 36)),i1 38 (.load false 1 (.t 37)),mu 39 1 (ur 4),mu 40 5 (ur 5),iu 41 (.iaddr 1 (.t 39) (.t 40)) (ur 4),iu 42 (.load false 1 (.t 41)) (ur 4),i1 43 (.bin .gtr (.t 38) (.t 42))]) (.cond (.t 43) (.ops [mv 44 6,mv 5 44]) (.skip))
def Bbf:Aam := .seq (.ops [i1 20 (.load true 14 (.t 2)),mv 21 7,i1 22 (cf Abu [(.t 20),(.t 21)]),mv 19 22,i1 23 (.extract (.t 19) 0),i1 24 (.extract (.t 19) 1),mv 8 23,mv 9 24]) (.seq (Bbh) (Bbg))
def Bbe:Aam := .seq (.block 1 (.seq (.ops [mv 16 14,i1 17 (.iaddr 1 (.t 12) (.t 14)),i1 18 (.load false 1 (.t 17)),mv 6 16,mv 7 18]) (Bbf))) (.ops [i1 45 (.bin .add (.t 14) (k6 1)),mv 14 45])
def Bbd:Aam := .seq (.ops [i1 12 (cf Adf []),i1 13 (.len false (.t 12)),i1 14 (.move (k6 0))]) (.block 0 (.loop (.seq (.ops [i1 15 (.bin .lss (.t 14) (.t 13))]) (.seq (.cond (.t 15) (.skip) (.exit 0)) (Bbe)))))
def Bbc:Aam := .seq (.ops [mv 51 11,mv 52 1,mv 53 5,i1 54 (.iaddr 1 (.t 52) (.t 53)),i1 55 (.load false 1 (.t 54)),i1 56 (.bin .gtr (.t 55) (.c (.int .u64 0))),i1 57 (.eqB false (.t 51) (.t 56)),mv 58 57,ig 59 (.move (.t 11)) 58 true,ig 60 (.move (.t 59)) 58 true,ig 61 (.move (.t 10)) 60 true,ig 62 (cf Adf []) 60 true,ig 63 (.move (.t 5)) 60 true,ig 64 (.iaddr 1 (.t 62) (.t 63)) 60 true,ig 65 (.load false 1 (.t 64)) 60 true,ig 66 (.bin .eql (.t 61) (.t 65)) 60 true,ig 67 (.pick (.t 60) (.t 66) (.c (.bool false))) 58 true,ig 68 (.move (.t 67)) 58 true,ig 69 (.move (.t 11)) 68 false,ig 70 (.un .not (.t 69)) 68 false,ig 71 (.move (.t 70)) 68 false,ig 72 (.move (.t 10)) 71 true,ig 73 (.bin .eql (.t 72) (.c (.str []))) 71 true,ig 74 (.pick (.t 71) (.t 73) (.c (.bool false))) 68 false,ig 75 (.pick (.t 68) (.c (.bool true)) (.t 74)) 58 true,i1 76 (.pick (.t 58) (.t 75) (.c (.bool false))),mv 4 76]) (.ret)
def Bbb:Aam := .seq (.ops [i1 47 (.load true 14 (.t 2)),i1 48 (cf AgM [(.t 47)]),mv 46 48,i1 49 (.extract (.t 46) 0),i1 50 (.extract (.t 46) 1),mv 10 49,mv 11 50]) (Bbc)
def Asw:AFunc:=⟨2,77,[.tmp 4],
 .seq (.ops [i1 2 (.box 14 (.t 0)),i1 4 (.move (.c (.bool false)))]) (.seq (.ops [i1 5 (.move (k6 0))]) (.seq (Bbd) (Bbb)))⟩
def Adl:AFunc:=⟨1,4,[.tmp 2],
 .seq (.ops [i1 1 (.box 14 (.t 0)),i1 2 (.move (.c .nils))]) (.seq (.ops [i1 3 (cf AgL []),mv 2 3]) (.ret))⟩
def ArA:Aam := .seq (.ops [i1 1 (.buildSlice [(.str [])] 1 14 [(0,(.c (.str [111,112,101,110,101,100]))),(1,(.c (.str [102,117,108,108]))),(2,(.c (.str [114,101,102,117,115,101,100]))),(3,(.c (.str [98,97,100]))),(4,(.c (.str [117,110,107,110,111,119,110]))),(5,(.c (.str [101,109,112,116,121]))),(6,(.c (.str [100,114,111,112,112,101,100]))),(7,(.c (.str [114,101,106,101,99,116,101,100]))),(8,(.c (.str [97,99,99,101,112,116,101,100]))),(9,(.c (.str [115,101,110,116]))),(10,(.c (.str [108,111,115,116]))),(11,(.c (.str [99,108,111,115,101,100]))),(12,(.c (.str [114,101,97,112,101,100]))),(13,(.c (.str [102,111,114,99,101,100])))]),mv 0 1]) (.ret)
def Aiz:AFunc:=⟨0,2,[.tmp 0],
 .seq (.ops [i1 0 (.move (.c .nils))]) (ArA)⟩
def AdJ:Aam := .seq (.ops [mv 6 0,i1 7 (.len false (.t 6)),mv 8 1,i1 9 (.len false (.t 8)),i1 10 (.bin .neq (.t 7) (.t 9))]) (.cond (.t 10) (.seq (.ops [i1 4 (.move (.c (.bool false)))]) (.ret)) (.skip))
def AdI:Aam := .seq (.draw [mv 16 0,mu 17 5 [0],i1 18 (.iaddr 1 (.t 16) (.t 17)),i1 19 (.load false 1 (.t 18)),mu 20 1 (ur 4),mu 21 5 (ur 5),iu 22 (.iaddr 1 (.t 20) (.t 21)) (ur 4),iu 23 (.load false 1 (.t 22)) (ur 4),i1 24 (.bin .neq (.t 19) (.t 23))]) (.cond (.t 24) (.seq (.ops [i1 4 (.move (.c (.bool false)))]) (.ret)) (.skip))
def AdH:Aam := .seq (.cond (.t 14) (.skip) (.exit 0)) (.seq (.block 1 (.seq (.ops [mv 15 13,mv 5 15]) (AdI))) (.ops [i1 25 (.bin .add (.t 13) (k6 1)),mv 13 25]))
def AdG:Aam := .seq (.ops [mv 11 0,i1 12 (.len false (.t 11)),i1 13 (.move (k6 0))]) (.block 0 (.loop (.seq (.ops [i1 14 (.bin .lss (.t 13) (.t 12))]) (AdH))))
def Acl:AFunc:=⟨2,26,[.tmp 4],
 .seq (.ops [i1 4 (.move (.c (.bool false)))]) (.seq (AdJ) (.seq (AdG) (.seq (.ops [i1 4 (.move (.c (.bool true)))]) (.ret))))⟩
def Abq:AFunc:=⟨2,9,[.tmp 4],
 .seq (.ops [i1 4 (.move (.c (.bool false)))]) (.seq (.ops [mv 5 0,mv 6 1,i1 7 (cf Abz [(.t 5),(.t 6)]),i1 8 (.bin .geq (.t 7) (k6 0)),mv 4 8]) (.ret))⟩
def Aid:Aam := .seq (.ops [i1 18 (.load true 14 (.t 3)),mv 19 2,i1 20 (cf Abu [(.t 18),(.t 19)]),mv 17 20,i1 21 (.extract (.t 17) 0),i1 22 (.extract (.t 17) 1),mv 9 21,mv 10 22]) (.seq (.ops [mv 23 7,mv 24 9,i1 25 (cf AhX [(.t 23),(.t 24)]),mv 6 25]) (.ret))
def Aic:Aam := .seq (.ops [i1 12 (.load true 14 (.t 3)),mv 13 1,i1 14 (cf Abu [(.t 12),(.t 13)]),mv 11 14,i1 15 (.extract (.t 11) 0),i1 16 (.extract (.t 11) 1),mv 7 15,mv 8 16]) (Aid)
def Adk:AFunc:=⟨3,26,[.tmp 6],
 .seq (.ops [i1 3 (.box 14 (.t 0)),i1 6 (.move (.c (.flt .f64 0)))]) (Aic)⟩
def AuS:Aam := .seq (.ops [mv 6 0,i1 7 (.conv (.flt .f64) (.t 6)),mv 8 1,i1 9 (.conv (.flt .f64) (.t 8)),i1 10 (.bin .add (.t 7) (.t 9)),mv 5 10]) (.seq (.ops [mv 11 0,i1 12 (.conv (.flt .f64) (.t 11)),mv 13 5,i1 14 (.bin .quo (.t 12) (.t 13)),mv 4 14]) (.ret))
def AfC:AFunc:=⟨2,15,[.tmp 4],
 .seq (.ops [i1 4 (.move (.c (.flt .f64 0)))]) (AuS)⟩
def AfW:AFunc:=⟨2,9,[.tmp 4],
 .seq (.ops [i1 4 (.move (.c (.bool false)))]) (.seq (.ops [mv 5 0,mv 6 1,i1 7 (cf Akr [(.t 5),(.t 6)]),i1 8 (.bin .eql (.t 7) (k6 0)),mv 4 8]) (.ret))⟩
def AjF:Aam := .seq (.ops [i1 17 (.load true 14 (.t 1)),mv 18 5,i1 19 (cf Abu [(.t 17),(.t 18)]),mv 16 19,i1 20 (.extract (.t 16) 0),i1 21 (.extract (.t 16) 1),mv 6 20,mv 7 21]) (.ops [mv 22 3,mv 23 6,i1 24 (cf ApL [(.t 22),(.t 23)]),mv 3 24])
def AjE:Aam := .seq (.block 1 (.seq (.ops [i1 14 (.iaddr 1 (.t 10) (.t 12)),i1 15 (.load false 1 (.t 14)),mv 5 15]) (AjF))) (.ops [i1 25 (.bin .add (.t 12) (k6 1)),mv 12 25])
def AjD:Aam := .seq (.ops [i1 10 (.buildSlice [(.str [])] 1 5 [(0,(.c (.str [98,97,100]))),(1,(.c (.str [117,110,107,110,111,119,110]))),(2,(.c (.str [101,109,112,116,121]))),(3,(.c (.str [100,114,111,112,112,101,100]))),(4,(.c (.str [114,101,106,101,99,116,101,100])))]),i1 11 (.len false (.t 10)),i1 12 (.move (k6 0))]) (.block 0 (.loop (.seq (.ops [i1 13 (.bin .lss (.t 12) (.t 11))]) (.seq (.cond (.t 13) (.skip) (.exit 0)) (AjE)))))
def AjC:Aam := .seq (.ops [i1 27 (.load true 14 (.t 1)),i1 28 (cf Abu [(.t 27),(.c (.str [97,99,99,101,112,116,101,100]))]),mv 26 28,i1 29 (.extract (.t 26) 0),i1 30 (.extract (.t 26) 1),mv 8 29,mv 9 30]) (.seq (.ops [mv 31 3,mv 32 8,i1 33 (cf AhX [(.t 31),(.t 32)]),mv 2 33]) (.ret))
def AdQ:AFunc:=⟨1,34,[.tmp 2],
 .seq (.ops [i1 1 (.box 14 (.t 0)),i1 2 (.move (.c (.flt .f64 0)))]) (.seq (.ops [i1 3 (.move (.c (.int .u64 0)))]) (.seq (AjD) (AjC)))⟩
def AjB:Aam := .seq (.ops [mv 15 7,i1 16 (.conv (.flt .f64) (.t 15)),mv 17 2,i1 18 (.conv (.flt .f64) (.t 17)),i1 19 (.bin .quo (.t 16) (.t 18)),mv 6 19]) (.ret)
def AjA:Aam := .seq (.ops [i1 10 (.load true 14 (.t 3)),mv 11 1,i1 12 (cf Abu [(.t 10),(.t 11)]),mv 9 12,i1 13 (.extract (.t 9) 0),i1 14 (.extract (.t 9) 1),mv 7 13,mv 8 14]) (AjB)
def AdP:AFunc:=⟨3,20,[.tmp 6],
 .seq (.ops [i1 3 (.box 14 (.t 0)),i1 6 (.move (.c (.flt .f64 0)))]) (AjA)⟩
def AdF:Aam := .seq (.ops [mv 11 1,mv 12 0,mv 13 5,i1 14 (.iaddr 1 (.t 12) (.t 13)),i1 15 (.load false 1 (.t 14)),i1 16 (.bin .eql (.t 11) (.t 15))]) (.cond (.t 16) (.seq (.ops [mv 17 5,mv 4 17]) (.ret)) (.skip))
def AdE:Aam := .seq (.cond (.t 9) (.skip) (.exit 0)) (.seq (.block 1 (.seq (.ops [mv 10 8,mv 5 10]) (AdF))) (.ops [i1 18 (.bin .add (.t 8) (k6 1)),mv 8 18]))
def AdD:Aam := .seq (.ops [mv 6 0,i1 7 (.len false (.t 6)),i1 8 (.move (k6 0))]) (.block 0 (.loop (.seq (.ops [i1 9 (.bin .lss (.t 8) (.t 7))]) (AdE))))
def AbA:AFunc:=⟨2,19,[.tmp 4],
 .seq (.ops [i1 4 (.move (k6 0))]) (.seq (AdD) (.seq (.ops [i1 4 (.move (k6 (-1)))]) (.ret)))⟩
def AkC:Aam := .seq (.ops [mv 13 6,mv 14 4,i1 15 (.faddr 0 (.t 1)),i1 16 (.iaddrArr 14 1 (.t 15) (.t 14)),i1 17 (.load false 1 (.t 16)),i1 18 (.bin .leq (.t 13) (.t 17))]) (.cond (.t 18) (.exit 1) (.skip))
def AkB:Aam := .seq (.block 1 (.seq (.ops [mv 11 9,i1 12 (.idxArr false 14 1 (.t 8) (.t 9)),mv 5 11,mv 6 12]) (.seq (AkC) (.ops [mv 19 5,mv 4 19])))) (.ops [i1 20 (.bin .add (.t 9) (k6 1)),mv 9 20])
def AkA:Aam := .seq (.ops [i1 7 (.faddr 0 (.t 1)),i1 8 (.load true 14 (.t 7)),i1 9 (.move (k6 0))]) (.block 0 (.loop (.seq (.ops [i1 10 (.bin .lss (.t 9) (k6 14))]) (.seq (.cond (.t 10) (.skip) (.exit 0)) (AkB)))))
def Akz:Aam := .seq (.ops [mv 21 4,i1 22 (.faddr 0 (.t 1)),i1 23 (.iaddrArr 14 1 (.t 22) (.t 21)),i1 24 (.load false 1 (.t 23)),i1 25 (.bin .eql (.t 24) (.c (.int .u64 0)))]) (.cond (.t 25) (.seq (.ops [i1 2 (.move (.c (.str []))),i1 3 (.move (.c (.bool false)))]) (.ret)) (.skip))
def Aky:Aam := .seq (.ops [i1 26 (cf AgL []),mv 27 4,i1 28 (.iaddr 1 (.t 26) (.t 27)),i1 29 (.load false 1 (.t 28)),mv 2 29,i1 3 (.move (.c (.bool true)))]) (.ret)
def Aev:AFunc:=⟨1,30,[.tmp 2,.tmp 3],
 .seq (.ops [i1 1 (.box 14 (.t 0)),i1 2 (.move (.c (.str []))),i1 3 (.move (.c (.bool false)))]) (.seq (.ops [i1 4 (.move (k6 0))]) (.seq (.skip) (.seq (AkA) (.seq (Akz) (Aky)))))⟩
def Aro:Aam := .seq (.ops [mv 7 0,i1 8 (.conv (.flt .f64) (.t 7)),mv 9 1,i1 10 (.conv (.flt .f64) (.t 9)),mv 5 8,mv 6 10]) (.seq (.ops [mv 11 5,mv 12 5,mv 13 6,i1 14 (.bin .add (.t 12) (.t 13)),i1 15 (.bin .quo (.t 11) (.t 14)),mv 4 15]) (.ret))
def Aeu:AFunc:=⟨2,16,[.tmp 4],
 .seq (.ops [i1 4 (.move (.c (.flt .f64 0)))]) (Aro)⟩
def AuR:Aam := .seq (.ops [mv 6 0,i1 7 (cf Aer [(.t 6)]),mv 8 1,i1 9 (cf Aer [(.t 8)]),i1 10 (cf Afz [(.t 7),(.t 9)]),mv 5 10]) (.seq (.ops [mv 11 5,i1 12 (.bin .neq (.t 11) (k6 0))]) (.cond (.t 12) (.seq (.ops [mv 13 5,mv 4 13]) (.ret)) (.skip)))
def AuQ:Aam := .seq (.seq (.ops [mv 14 0,i1 15 (cf Aer [(.t 14)]),i1 16 (.bin .eql (.t 15) (k6 0))]) (.cond (.t 16) (.seq (.ops [i1 4 (.move (k6 0))]) (.ret)) (.skip))) (.seq (.ops [mv 17 0,mv 18 1,i1 19 (cf AdC [(.t 17),(.t 18)]),mv 4 19]) (.ret))
def AhC:AFunc:=⟨2,20,[.tmp 4],
 .seq (.ops [i1 4 (.move (k6 0))]) (.seq (AuR) (AuQ))⟩
def Auw:Aam := .seq (.ops [mv 5 1,mv 6 0,i1 7 (.bin .sub (.c (.int .u64 18446744073709551615)) (.t 6)),i1 8 (.bin .gtr (.t 5) (.t 7))]) (.cond (.t 8) (.seq (.ops [i1 4 (.move (.c (.int .u64 18446744073709551615)))]) (.ret)) (.skip))
def AkQ:AFunc:=⟨2,12,[.tmp 4],
 .seq (.ops [i1 4 (.move (.c (.int .u64 0)))]) (.seq (Auw) (.seq (.ops [mv 9 0,mv 10 1,i1 11 (.bin .add (.t 9) (.t 10)),mv 4 11]) (.ret)))⟩
def Arz:Aam := .cond (.t 19) (.seq (.ops [i1 2 (.move (k6 4))]) (.ret)) (.seq (.ops [mv 23 0,i1 24 (cf AeO [(.t 23),(k6 1)]),mv 22 24]) (.cond (.t 22) (.seq (.ops [i1 2 (.move (k6 6))]) (.ret)) (.skip)))
def Ary:Aam := .cond (.t 12) (.seq (.ops [i1 2 (.move (k6 3))]) (.ret)) (.seq (.ops [mv 20 0,i1 21 (.bin .eql (.t 20) (.c (.flt .f64 0))),mv 19 21]) (Arz))
def Arx:Aam := .seq (.ops [mv 13 0,i1 14 (.bin .eql (.t 13) (.c (.flt .f64 0))),mv 15 14,ig 16 (.move (.t 0)) 15 true,ig 17 (cf AhJ [(.t 16)]) 15 true,i1 18 (.pick (.t 15) (.t 17) (.c (.bool false))),mv 12 18]) (Ary)
def Arw:Aam := .cond (.t 6) (.seq (.ops [i1 2 (.move (k6 1))]) (.ret)) (.seq (.ops [mv 10 0,i1 11 (.bin .lss (.t 10) (.c (.flt .f64 0))),mv 9 11]) (.cond (.t 9) (.seq (.ops [i1 2 (.move (k6 2))]) (.ret)) (Arx)))
def Arv:Aam := .seq (.ops [mv 4 0,i1 5 (cf AgR [(.t 4)]),mv 3 5]) (.cond (.t 3) (.seq (.ops [i1 2 (.move (k6 0))]) (.ret)) (.seq (.ops [mv 7 0,i1 8 (cf AeO [(.t 7),(k6 (-1))]),mv 6 8]) (Arw)))
def AbL:AFunc:=⟨1,25,[.tmp 2],
 .seq (.ops [i1 2 (.move (k6 0))]) (.seq (.block 0 (Arv)) (.seq (.ops [i1 2 (.move (k6 5))]) (.ret)))⟩
def Aim:Aam := .cond (.t 11) (.seq (.seq (.ops [mv 12 6]) (.cond (.t 12) (.seq (.ops [i1 4 (.move (k6 0))]) (.ret)) (.skip))) (.seq (.ops [i1 4 (.move (k6 (-1)))]) (.ret))) (.skip)
def Ail:Aam := .seq (.seq (.ops [mv 17 0,mv 18 1,i1 19 (.bin .gtr (.t 17) (.t 18))]) (.cond (.t 19) (.seq (.ops [i1 4 (.move (k6 1))]) (.ret)) (.skip))) (.seq (.ops [i1 4 (.move (k6 0))]) (.ret))
def Aik:Aam := .seq (.seq (.ops [mv 14 0,mv 15 1,i1 16 (.bin .lss (.t 14) (.t 15))]) (.cond (.t 16) (.seq (.ops [i1 4 (.move (k6 (-1)))]) (.ret)) (.skip))) (Ail)
def Aij:Aam := .seq (.seq (.ops [mv 11 5]) (Aim)) (.seq (.seq (.ops [mv 13 6]) (.cond (.t 13) (.seq (.ops [i1 4 (.move (k6 1))]) (.ret)) (.skip))) (Aik))
def Adn:AFunc:=⟨2,20,[.tmp 4],
 .seq (.ops [i1 4 (.move (k6 0))]) (.seq (.ops [mv 7 0,i1 8 (cf Aet [(.t 7)]),mv 5 8]) (.seq (.ops [mv 9 1,i1 10 (cf Aet [(.t 9)]),mv 6 10]) (Aij)))⟩
def AfU:Aam := .cond (.t 11) (.seq (.seq (.ops [mv 12 6]) (.cond (.t 12) (.seq (.ops [i1 4 (.move (k6 0))]) (.ret)) (.skip))) (.seq (.ops [i1 4 (.move (k6 (-1)))]) (.ret))) (.skip)
def AfT:Aam := .seq (.seq (.ops [mv 17 0,mv 18 1,i1 19 (.bin .gtr (.t 17) (.t 18))]) (.cond (.t 19) (.seq (.ops [i1 4 (.move (k6 1))]) (.ret)) (.skip))) (.seq (.ops [i1 4 (.move (k6 0))]) (.ret))
def AfS:Aam := .seq (.seq (.ops [mv 14 0,mv 15 1,i1 16 (.bin .lss (.t 14) (.t 15))]) (.cond (.t 16) (.seq (.ops [i1 4 (.move (k6 (-1)))]) (.ret)) (.skip))) (AfT)
def AfR:Aam := .seq (.seq (.ops [mv 11 5]) (AfU)) (.seq (.seq (.ops [mv 13 6]) (.cond (.t 13) (.seq (.ops [i1 4 (.move (k6 1))]) (.ret)) (.skip))) (AfS))
def Acu:AFunc:=⟨2,20,[.tmp 4],
 .seq (.ops [i1 4 (.move (k6 0))]) (.seq (.ops [mv 7 0,i1 8 (cf AcI [(.t 7)]),mv 5 8]) (.seq (.ops [mv 9 1,i1 10 (cf AcI [(.t 9)]),mv 6 10]) (AfR)))⟩
def AeR:AFunc:=⟨1,6,[.tmp 2],
 .seq (.ops [i1 2 (.move (.c (.bool false)))]) (.seq (.ops [mv 3 0,mv 4 0,i1 5 (.bin .neq (.t 3) (.t 4)),mv 2 5]) (.ret))⟩
def AoW:Aam := .cond (.t 6) (.ops [mv 7 0,i1 8 (cf BaO [(.t 7)]),mv 0 8]) (.seq (.ops [mv 9 1,i1 10 (.bin .lss (.t 9) (k6 0))]) (.cond (.t 10) (.ops [mv 11 0,i1 12 (.un .neg (.t 11)),mv 0 12]) (.skip)))
def AoV:Aam := .seq (.seq (.ops [mv 5 1,i1 6 (.bin .eql (.t 5) (k6 0))]) (AoW)) (.seq (.ops [mv 13 0,i1 14 (.bin .gtr (.t 13) (.c (.flt .f64 9218868437227405311))),mv 4 14]) (.ret))
def AeS:AFunc:=⟨2,15,[.tmp 4],
 .seq (.ops [i1 4 (.move (.c (.bool false)))]) (AoV)⟩
def Aff:AFunc:=⟨1,7,[.tmp 2],
 .seq (.ops [i1 2 (.move (.c (.bool false)))]) (.seq (.ops [mv 3 0,i1 4 (cf AeP [(.t 3)]),i1 5 (.conv (.int .i64) (.t 4)),i1 6 (.bin .lss (.t 5) (k6 0)),mv 2 6]) (.ret))⟩
def Aey:AFunc:=⟨1,6,[.tmp 2],
 .seq (.ops [i1 2 (.move (.c (.bool false)))]) (.seq (.ops [mv 3 0,mv 4 0,i1 5 (.bin .neq (.t 3) (.t 4)),mv 2 5]) (.ret))⟩
def AcK:AFunc:=⟨1,6,[.tmp 2],
 .seq (.ops [i1 2 (.move (.c (.bool false)))]) (.seq (.ops [mv 3 0,mv 4 0,i1 5 (.bin .neq (.t 3) (.t 4)),mv 2 5]) (.ret))⟩
def Aqa:AFunc:=⟨1,7,[.tmp 2],
 .seq (.ops [i1 2 (.move (.c (.flt .f64 0)))]) (.seq (.ops [mv 3 0,i1 4 (cf AeP [(.t 3)]),i1 5 (.bin .andNot (.t 4) (.c (.int .u64 9223372036854775808))),i1 6 (cf Agn [(.t 5)]),mv 2 6]) (.ret))⟩
def fnS (n:Nat):Option AFunc:=(bif Nat.blt n 63 then (bif Nat.blt n 53 then (bif Nat.blt n 31 then (bif Nat.blt n 18 then (bif Nat.beq n 10 then some AdS else none) else (bif Nat.blt n 24 then (bif Nat.beq n 18 then some AhC else none) else (bif Nat.beq n 24 then some AfW else none))) else (bif Nat.blt n 51 then (bif Nat.blt n 50 then (bif Nat.beq n 31 then some AeS else none) else (bif Nat.beq n 50 then some AnW else none)) else (bif Nat.blt n 52 then (bif Nat.beq n 51 then some Ada else none) else (bif Nat.beq n 52 then some Adk else none)))) else (bif Nat.blt n 59 then (bif Nat.blt n 55 then (bif Nat.blt n 54 then (bif Nat.beq n 53 then some AdP else none) else (bif Nat.beq n 54 then some AkV else none)) else (bif Nat.blt n 56 then (bif Nat.beq n 55 then some AiD else none) else (bif Nat.beq n 56 then some Asw else none))) else (bif Nat.blt n 61 then (bif Nat.blt n 60 then (bif Nat.beq n 59 then some Aqa else none) else (bif Nat.beq n 60 then some AnY else none)) else (bif Nat.blt n 62 then (bif Nat.beq n 61 then some Acl else none) else (bif Nat.beq n 62 then some Adl else none))))) else (bif Nat.blt n 78 then (bif Nat.blt n 66 then (bif Nat.blt n 64 then (bif Nat.beq n 63 then some Aiz else none) else (bif Nat.blt n 65 then (bif Nat.beq n 64 then some Abq else none) else (bif Nat.beq n 65 then some AfC else none))) else (bif Nat.blt n 76 then (bif Nat.blt n 67 then (bif Nat.beq n 66 then some AdQ else none) else (bif Nat.beq n 67 then some Aev else none)) else (bif Nat.blt n 77 then (bif Nat.beq n 76 then some Adn else none) else (bif Nat.beq n 77 then some AbL else none)))) else (bif Nat.blt n 134 then (bif Nat.blt n 84 then (bif Nat.blt n 82 then (bif Nat.beq n 78 then some Acu else none) else (bif Nat.beq n 82 then some AkQ else none)) else (bif Nat.blt n 132 then (bif Nat.beq n 84 then some AeR else none) else (bif Nat.beq n 132 then some AbA else none))) else (bif Nat.blt n 142 then (bif Nat.blt n 141 then (bif Nat.beq n 134 then some Aeu else none) else (bif Nat.beq n 141 then some Aey else none)) else (bif Nat.blt n 143 then (bif Nat.beq n 142 then some Aff else none) else (bif Nat.beq n 143 then some AcK else none))))))
def nameL:List (List UInt8):=[[111,112,101,110,101,100],[102,117,108,108],[114,101,102,117,115,101,100],[98,97,100],[117,110,107,110,111,119,110],[101,109,112,116,121],[100,114,111,112,112,101,100],[114,101,106,101,99,116,101,100],[97,99,99,101,112,116,101,100],[115,101,110,116],[108,111,115,116],[99,108,111,115,101,100],[114,101,97,112,101,100],[102,111,114,99,101,100]]
def namesV:AVal := .imm (nameL.map fun s=>[.str s])
def pureS (n:Nat):Option (List AVal→Option AVal):=bif Nat.beq n 49 then some (fun l=>match l with
 | []=>some (.bool true)
 | _=>none) else bif Nat.beq n 133 then some (fun l=>match l with
 | []=>some namesV
 | _=>none) else bif Nat.beq n 136 then some AgK else bif Nat.beq n 137 then some Bbm else none
def APs:AaF:={fn:=fnS,keep:=fun _=>false,split:=fun _=>false,prim:=fun _=>none,pure:=pureS,slim:=true}
end Go.Eng.St
namespace Go.Eng.St
open Go Go.Eng
variable [Inhabited GlobT]
attribute [local irreducible] OpR TL TD TC TS AaB
abbrev u6 (n:Nat):AVal := .int .u64 (n:Int)
def satN (x y:Nat):Nat:=if 18446744073709551615 - x<y then 18446744073709551615 else x+y
theorem Akf {x y:Nat} (hx:x<18446744073709551616):satN x y<18446744073709551616:=by unfold satN;split<;>omega
theorem AhK (x y:Nat) (hx:x<18446744073709551616) (hy:y<18446744073709551616):AaB APs ApL [u6 x,u6 y] (u6 (satN x y)):=by
 refine Aaq (af:=AkQ) rfl rfl ?_
 refine Aac (Aad (Aaa 1 rfl (Aab (Aac (Aac (Aad ?_))))))
 refine Aaa 2 rfl ?_;refine Aae (BcO (a:=18446744073709551615) rfl rfl (by omega) (Acj (by omega))) rfl rfl rfl rfl ?_
 refine Aaa 1 rfl (Aab ?_)
 refine Aax rfl decide_eq_true_iff (fun h=>?_) (fun h=>?_)
 ·have:satN x y=18446744073709551615:=by unfold satN;rw [if_pos (by omega)]
  rw [this]
  refine Aac (Aad (Aaa 1 rfl (Aab ?_)));exact Aay (retd rfl ⟨_,AaA rfl⟩)
 ·have:satN x y=x+y:=by unfold satN;rw [if_neg (by omega)]
  rw [this]
  refine Aas (Aac (Aad (Aaa 2 rfl ?_)));refine Aae (AtG rfl rfl (Acj (by omega))) rfl rfl rfl rfl ?_
  refine Aaa 1 rfl (Aab ?_);exact Aay (retd rfl ⟨_,AaA rfl⟩)
abbrev cl (L:List Nat):List AVal:=L.map u6
@[simp] theorem cl_closed (L:List Nat):AaH (cl L)=true:=AaL (fun _=>rfl) _
@[simp] theorem cl_noref (L:List Nat):norefL (cl L)=true:=AbG (fun _=>rfl) _
def OkL (L:List Nat):Prop:=L.length=14∧∀ x∈L,x<18446744073709551616
theorem OkL.get {L:List Nat} (h:OkL L) (i:Nat):L.getD i 0<18446744073709551616:=by
 rw [List.getD_eq_getElem?_getD]
 cases hi:L[i]? with
 | none=>simp
 | some x=>exact h.2 x (List.mem_of_getElem? hi)
theorem of14 {L:List Nat} (h:OkL L):∃ a b c d e f g i j k l m n o,L=[a,b,c,d,e,f,g,i,j,k,l,m,n,o]:=by
 obtain⟨h,-⟩:=h
 match L,h with
 | [a,b,c,d,e,f,g,i,j,k,l,m,n,o],_=>exact⟨a,b,c,d,e,f,g,i,j,k,l,m,n,o,rfl⟩
set_option maxRecDepth 20000 in
theorem of_ok (L:List Nat) (h:OkL L):AaB APs Aub [.agg (cl L)] (.agg (cl L)):=by
 obtain⟨a,b,c,d,e,f,g,i,j,k,l,m,n,o,rfl⟩:=of14 h
 refine Aaq (af:=AnW) rfl rfl ?_
 refine Aac (Aad (Aaa 2 rfl (Aab (Aac (Aad (Aaa 28 rfl ?_))))))
 refine Aae (Adt rfl rfl) rfl rfl rfl rfl ?_;refine Aae (Adt rfl rfl) rfl rfl rfl rfl ?_;refine Aaa 1 rfl (Aab ?_)
 exact Aay (retd rfl ⟨_,AaA rfl⟩)
theorem names_ok (L:List Nat) (h:OkL L):AaB APs Afw [.agg (cl L)] namesV:=by
 obtain⟨a,b,c,d,e,f,g,i,j,k,l,m,n,o,rfl⟩:=of14 h
 refine Aaq (af:=Adl) rfl rfl ?_
 refine Aac (Aad (Aaa 2 rfl (Aab (Aac (Aad (Aaa 2 rfl ?_))))))
 refine Aab ?_;exact Aay (retd rfl ⟨_,AaA rfl⟩)
theorem AmL:AaB APs Adf [] namesV:=by
 refine Aaq (af:=Aiz) rfl rfl ?_
 refine Aac (Aad (Aaa 1 rfl (Aab (Aac (Aad ?_)))))
 refine Aae (Abc rfl rfl rfl) rfl rfl rfl rfl ?_;refine Aaa 1 rfl (Aab ?_);exact Aay (AlU rfl rfl)
def idxI (ls:List (List UInt8)) (s:List UInt8):Int:=if s∈ls then (ls.idxOf s:Int) else -1
theorem idxI_at {ls:List (List UInt8)} {s:List UInt8} {i:Nat} (h:ls[i]?=some s) (hn:∀ j,j<i→ls[j]?≠some s):idxI ls s=(i:Int):=by
 obtain⟨hi,hs⟩:=List.getElem?_eq_some_iff.1 h
 have hm:s∈ls:=hs▸List.getElem_mem hi
 unfold idxI
 rw [if_pos hm]
 have h1:ls.idxOf s<ls.length:=List.idxOf_lt_length_iff.2 hm
 have h2:ls[ls.idxOf s]=s:=List.getElem_idxOf h1
 have h3:ls.idxOf s=i:=by
  rcases Nat.lt_trichotomy (ls.idxOf s) i with h4 | h4 | h4
  ·exact absurd (by rw [List.getElem?_eq_getElem h1,h2]) (hn _ h4)
  ·exact h4
  ·exfalso
   have:=List.not_of_lt_findIdx (p:=(· == s)) (xs:=ls) (i:=i) h4
   simp [hs] at this
 omega
theorem Azh (ls:List (List UInt8)) (hl:ls.length<4294967296) (s:List UInt8):AaB APs Abz [.imm (ls.map fun t=>[.str t]),.str s] (.int .i64 (idxI ls s)):=by
 refine Aaq (af:=AbA) rfl rfl ?_
 refine Aac (Aad (Aaa 1 rfl (Aab (Aac (Aac (Aad ?_))))))
 refine Aaa 3 rfl (Aab ?_)
 refine Aaj (AaJ (σ:=Nat) (fun i=>ls.length - i) (fun i=>[(0,.imm (ls.map fun t=>[.str t])),(1,.str s),(7,.int .i64 ((ls.map fun t=>[AVal.str t]).length:Int)),(8,.int .i64 (i:Int))])
  (fun i S=>i≤ls.length∧S=[]∧∀ j,j<i→ls[j]?≠some s) 0 (by (repeat' (first | exact Aav | refine Aal rfl ?_))) ⟨by omega,rfl,fun j h=>absurd h (by omega)⟩ ?_)
 rintro i S ⟨hi,rfl,hn⟩
 refine Aac (Aad (Aaa 1 rfl (Aab (Aac ?_))))
 refine Aax rfl decide_eq_true_iff (fun h=>Aas ?_) (fun h=>AaG ?_)
 ·have hi':i<ls.length:=by simp at h;omega
  refine Aac ?_;refine Aaj ?_;refine Aac (Aad (Aaa 2 rfl (Aab (Aac (Aad ?_)))))
  refine Aaa 3 rfl ?_
  refine Aae (Aby rfl rfl (Abb (d:=[]) hi') rfl) rfl rfl rfl rfl ?_
  refine Aaa 2 rfl (Aab ?_)
  have hg:ls[i]?=some (ls.getD i []):=by rw [List.getD_eq_getElem?_getD,List.getElem?_eq_getElem hi'];rfl
  refine Aax rfl beq_iff_eq (fun c=>?_) (fun c=>?_)
  ·have e:idxI ls s=(i:Int):=idxI_at (by rw [hg,←c]) hn
   rw [e]
   refine Aac (Aad (Aaa 2 rfl (Aab ?_)));exact Aay (retd rfl ⟨_,AaA rfl⟩)
  ·refine Aas (Aad ?_);refine Aae (AaK (b:=1) rfl rfl (by omega)) rfl rfl rfl rfl ?_;refine Aaa 1 rfl (Aab ?_)
   refine⟨i+1,by omega,by (repeat' (first | exact Aav | refine Aal rfl ?_)),by omega,rfl,fun j hj=>?_⟩
   rcases Nat.lt_or_ge j i with h1 | h1
   ·exact hn j h1
   ·have:j=i:=by omega
    subst this
    rw [hg]
    exact fun h2=>c (Option.some.inj h2).symm
 ·have e:idxI ls s = -1:=by
   unfold idxI
   rw [if_neg]
   intro hm
   obtain⟨j,hj,hjs⟩:=List.getElem_of_mem hm
   have hlen:ls.length≤i:=by simp at h;omega
   exact hn j (by omega) (by rw [List.getElem?_eq_getElem hj,hjs])
  rw [e]
  refine Aac (Aad (Aaa 1 rfl (Aab ?_)));exact Aay (retd rfl ⟨_,AaA rfl⟩)
def getV (L:List Nat) (s:List UInt8):Nat:=if s∈nameL then L.getD (nameL.idxOf s) 0 else 0
theorem name_lt {s:List UInt8} (h:s∈nameL):nameL.idxOf s<14:=List.idxOf_lt_length_iff.2 h
theorem Afr (L:List Nat) (h:OkL L) (s:List UInt8):AaB APs Abu [.agg (cl L),.str s] (.tuple [u6 (getV L s),.bool (decide (s∈nameL))]):=by
 have hi:=Azh nameL (by decide) s
 have hlen:=h.1
 by_cases hm:s∈nameL
 ·have e1:idxI nameL s=((nameL.idxOf s:Nat):Int):=if_pos hm
  have e2:getV L s=L.getD (nameL.idxOf s) 0:=if_pos hm
  have e3:decide (s∈nameL)=true:=by simp [hm]
  have e4:=name_lt hm
  rw [e1] at hi
  rw [e2,e3]
  generalize nameL.idxOf s=i at *
  refine Aaq (af:=Ada) rfl rfl ?_
  refine Aac (Aad ?_);refine Abm (AcN rfl (by simp;omega)) rfl rfl rfl rfl ?_;refine Aaa 2 rfl (Aab ?_)
  refine Aac (Aad (Aaa 2 rfl ?_));refine Aaf rfl rfl (hi) rfl rfl rfl rfl rfl rfl ?_;refine Aaa 1 rfl ?_
  refine Aab (Aac (Aac (Aad (Aaa 2 rfl (Aab ?_)))))
  refine AaC (t:=false) rfl (fun h=>nomatch h) (fun _=>?_);refine Aas (Aac (Aad (Aaa 2 rfl ?_)))
  refine Aae (Abi rfl rfl (by omega)) rfl rfl rfl rfl ?_;refine Aae (Abe 0 rfl rfl (by omega)) rfl rfl rfl rfl ?_;refine Aaa 2 rfl ?_
  refine Aab ?_;exact Aay (retd rfl ⟨_,AaA rfl⟩)
 ·have e1:idxI nameL s = -1:=if_neg hm
  have e2:getV L s=0:=if_neg hm
  have e3:decide (s∈nameL)=false:=by simp [hm]
  rw [e1] at hi
  rw [e2,e3]
  obtain⟨a,b,c,d,e,f,g,i',j,k,l,m,n,o,rfl⟩:=of14 h
  refine Aaq (af:=Ada) rfl rfl ?_
  refine Aac (Aad (Aaa 3 rfl (Aab (Aac (Aad (Aaa 2 rfl ?_))))))
  refine Aaf rfl rfl (hi) rfl rfl rfl rfl rfl rfl ?_;refine Aaa 1 rfl (Aab (Aac (Aac (Aad ?_))))
  refine Aaa 2 rfl (Aab ?_);refine AaC (t:=true) rfl (fun _=>?_) (fun h=>nomatch h);refine Aac (Aad ?_)
  refine Aaa 2 rfl (Aab ?_);exact Aay (retd rfl ⟨_,AaA rfl⟩)
def bestN (L:List Nat):Nat→Nat
 | 0=>0
 | i+1=>if L.getD i 0≤L.getD (bestN L i) 0 then bestN L i else i
theorem AsB (L:List Nat):∀ i,i≤14→bestN L i<14
 | 0,_=>by simp [bestN]
 | i+1,h=>by
   have:=AsB L i (by omega)
   unfold bestN
   split<;>omega
def topV (L:List Nat):List UInt8:=if L.getD (bestN L 14) 0=0 then [] else nameL.getD (bestN L 14) []
def topB (L:List Nat):Bool:=decide (L.getD (bestN L 14) 0≠0)
theorem top_ok (L:List Nat) (h:OkL L):AaB APs AgM [.agg (cl L)] (.tuple [.str (topV L),.bool (topB L)]):=by
 have hl:=h.1
 refine Aaq (af:=Aev) rfl rfl ?_
 refine Aac (Aad ?_);refine Abm (AcN rfl (by simp;omega)) rfl rfl rfl rfl ?_;refine Aaa 2 rfl (Aab ?_)
 refine Aac (Aad (Aaa 1 rfl (Aab (Aac (Aas (Aac (Aac ?_)))))))
 refine Aad (Aaa 1 rfl ?_);refine Aae (Abs rfl rfl (by simp;omega)) rfl rfl rfl rfl ?_;refine Aaa 1 rfl (Aab ?_)
 refine Aaj (AaJ (σ:=Nat) (fun i=>14 - i) (fun i=>[(1,.ptr 0 0 0),(2,.str []),(3,.bool false),(4,.int .i64 (bestN L i:Int)),(8,.agg (cl L)),(9,.int .i64 (i:Int))])
  (fun i S=>i≤14∧S=[some ⟨14,[cl L]⟩]) 0 (by (repeat' (first | exact Aav | refine Aal rfl ?_))) ⟨by omega,rfl⟩ ?_)
 rintro i S ⟨hi,rfl⟩
 have hb:=AsB L i hi
 refine Aac (Aad (Aaa 1 rfl (Aab (Aac ?_))))
 refine Aax rfl decide_eq_true_iff (fun c=>Aas ?_) (fun c=>AaG ?_)
 ·have hi':i<14:=by omega
  refine Aac ?_;refine Aaj ?_;refine Aac (Aad (Aaa 1 rfl ?_))
  refine Aae (AyT 0 rfl rfl (by omega) (by omega)) rfl rfl rfl rfl ?_;refine Aaa 2 rfl (Aab (Aac (Aac ?_)))
  refine Aad (Aaa 3 rfl ?_);refine Aae (Abi rfl rfl (by omega)) rfl rfl rfl rfl ?_
  refine Aae (Abe 0 rfl rfl (by omega)) rfl rfl rfl rfl ?_;refine Aaa 1 rfl (Aab ?_)
  refine Aax rfl decide_eq_true_iff (fun g=>AaG ?_) (fun g=>Aas ?_)
  ·have e:bestN L (i+1)=bestN L i:=if_pos (by omega)
   refine Aad ?_;refine Aae (AaK (b:=1) rfl rfl (by omega)) rfl rfl rfl rfl ?_;refine Aaa 1 rfl (Aab ?_)
   exact⟨i+1,by omega,by rw [e];(repeat' (first | exact Aav | refine Aal rfl ?_)),by omega,rfl⟩
  ·have e:bestN L (i+1)=i:=if_neg (by omega)
   refine Aad (Aaa 2 rfl (Aab (Aad ?_)));refine Aae (AaK (b:=1) rfl rfl (by omega)) rfl rfl rfl rfl ?_
   refine Aaa 1 rfl (Aab ?_)
   exact⟨i+1,by omega,by rw [e];(repeat' (first | exact Aav | refine Aal rfl ?_)),by omega,rfl⟩
 ·have:i=14:=by omega
  subst this
  refine Aac (Aac (Aad (Aaa 2 rfl ?_)));refine Aae (Abi rfl rfl (by omega)) rfl rfl rfl rfl ?_
  refine Aae (Abe 0 rfl rfl (by omega)) rfl rfl rfl rfl ?_;refine Aaa 1 rfl (Aab ?_)
  refine Aax rfl beq_iff_eq (fun g=>?_) (fun g=>Aas ?_)
  ·have g:L.getD (bestN L 14) 0=0:=by omega
   have e1:topV L=[]:=if_pos g
   have e2:topB L=false:=by unfold topB;rw [g];rfl
   rw [e1,e2]
   refine Aac (Aad (Aaa 2 rfl (Aab ?_)));exact Aay (retd rfl ⟨_,AaA rfl⟩)
  ·have g:L.getD (bestN L 14) 0≠0:=by omega
   have e1:topV L=nameL.getD (bestN L 14) []:=if_neg g
   have e2:topB L=true:=by unfold topB;exact decide_eq_true g
   rw [e1,e2]
   have hb':bestN L 14<nameL.length:=hb
   refine Aac (Aad (Aaa 2 rfl ?_))
   refine Aae (Aby rfl rfl (Abb (d:=[]) hb') rfl) rfl rfl rfl rfl ?_
   refine Aaa 3 rfl (Aab ?_);exact Aay (retd rfl ⟨_,AaA rfl⟩)
theorem name_at:∀ i,i<14→nameL.idxOf (nameL.getD i [])=i∧nameL.getD i []∈nameL:=by decide
theorem AcX (L:List Nat) {i:Nat} (hi:i<14):getV L (nameL.getD i [])=L.getD i 0∧decide (nameL.getD i []∈nameL)=true:=by
 obtain⟨h1,h2⟩:=name_at i hi
 exact⟨by unfold getV;rw [if_pos h2,h1],decide_eq_true h2⟩
theorem is_ok (L:List Nat) (h:OkL L):AaB APs Azr [.agg (cl L),.imm (L.map fun x=>[u6 x])] (.bool true):=by
 have hl:=h.1
 have hr:=AmL
 refine Aaq (af:=Asw) rfl rfl ?_
 refine Aac (Aad ?_);refine Abm (AcN rfl (by simp;omega)) rfl rfl rfl rfl ?_;refine Aaa 1 rfl (Aab ?_)
 refine Aac (Aad (Aaa 1 rfl (Aab (Aac (Aac (Aad ?_))))))
 refine Aaf rfl rfl (hr) rfl rfl rfl rfl rfl rfl ?_;refine Aaa 2 rfl (Aab ?_)
 refine Aaj (AaJ (σ:=Nat) (fun i=>14 - i) (fun i=>[(1,.imm (L.map fun x=>[u6 x])),(2,.ptr 0 0 0),(4,.bool false),(5,.int .i64 (bestN L i:Int)),(12,namesV),(13,.int .i64 14),(14,.int .i64 (i:Int))])
  (fun i S=>i≤14∧S=[some ⟨14,[cl L]⟩]) 0 (by (repeat' (first | exact Aav | refine Aal rfl ?_))) ⟨by omega,rfl⟩ ?_)
 rintro i S ⟨hi,rfl⟩
 have hb:=AsB L i hi
 refine Aac (Aad (Aaa 1 rfl (Aab (Aac ?_))))
 refine Aax rfl decide_eq_true_iff (fun c=>Aas ?_) (fun c=>AaG ?_)
 ·have hi':i<14:=by omega
  have hin:i<nameL.length:=hi'
  have hiL:i<L.length:=by omega
  have hbL:bestN L i<L.length:=by omega
  have hg:=Afr L h (nameL.getD i [])
  obtain⟨g1,g2⟩:=AcX L hi'
  rw [g1,g2] at hg
  refine Aac ?_;refine Aaj ?_;refine Aac (Aad (Aaa 1 rfl ?_))
  refine Aae (Aby rfl rfl (Abb (d:=[]) hin) rfl) rfl rfl rfl rfl ?_
  refine Aaa 3 rfl (Aab (Aac (Aad ?_)));refine Aae (Abs rfl rfl (by simp;omega)) rfl rfl rfl rfl ?_
  refine Aaa 1 rfl ?_
  refine Aaf rfl (by simp [AVal.closed,AaH,AaX,AaL,Abj]) (hg) (by simp [AVal.noref,AVal.flat,norefL,Abo,AbG,AbZ]) rfl rfl rfl rfl rfl ?_
  refine Aaa 5 rfl (Aab (Aac (Aac (Aad (Aaa 6 rfl ?_)))))
  refine Aae (Aby rfl rfl (Abb (d:=0) (by omega)) rfl) rfl rfl rfl rfl ?_;refine Aaa 3 rfl (Aab ?_)
  refine Aax rfl bne_iff_ne (fun h=>absurd rfl h) (fun _=>Aas ?_)
  refine Aac ?_;refine AaS rfl ?_;refine Aah 2 rfl ?_;refine Aai rfl rfl (Aby rfl rfl (Abb (d:=0) (by omega)) rfl) ?_
  refine Aah 3 rfl ?_;refine Aai rfl rfl (Aby rfl rfl (Abb (d:=0) (by omega)) rfl) ?_;refine Aah 2 rfl (AaD ?_)
  refine⟨rfl,?_⟩
  refine Aax rfl decide_eq_true_iff (fun g=>?_) (fun g=>Aas ?_)
  ·have e:bestN L (i+1)=i:=if_neg (by omega)
   refine Aad (Aaa 2 rfl (Aab (Aad ?_)));refine Aae (AaK (b:=1) rfl rfl (by omega)) rfl rfl rfl rfl ?_
   refine Aaa 1 rfl (Aab ?_)
   exact⟨i+1,by omega,by rw [e];(repeat' (first | exact Aav | refine Aal rfl ?_)),by omega,rfl⟩
  ·have e:bestN L (i+1)=bestN L i:=if_pos (by omega)
   refine Aad ?_;refine Aae (AaK (b:=1) rfl rfl (by omega)) rfl rfl rfl rfl ?_;refine Aaa 1 rfl (Aab ?_)
   exact⟨i+1,by omega,by rw [e];(repeat' (first | exact Aav | refine Aal rfl ?_)),by omega,rfl⟩
 ·have:i=14:=by omega
  subst this
  have ht:=top_ok L h
  have hbL:bestN L 14<L.length:=by omega
  have hb':bestN L 14<nameL.length:=hb
  by_cases g:L.getD (bestN L 14) 0=0
  ·have e1:topV L=[]:=if_pos g
   have e2:topB L=false:=by unfold topB;rw [g];rfl
   rw [e1,e2] at ht
   refine Aac (Aad ?_);refine Aae (Abs rfl rfl (by simp;omega)) rfl rfl rfl rfl ?_
   refine Aaf rfl (by simp [AVal.closed,AaH,AaX,AaL,Abj]) (ht) (by simp [AVal.noref,AVal.flat,norefL,Abo,AbG,AbZ]) rfl rfl rfl rfl rfl ?_
   refine Aaa 5 rfl (Aab (Aac (Aad (Aaa 3 rfl ?_))))
   refine Aae (Aby rfl rfl (Abb (d:=0) (by omega)) rfl) rfl rfl rfl rfl ?_;refine Aaa 4 rfl ?_
   have e3:decide (((L.getD (bestN L 14) 0:Nat):Int)>0)=false:=by rw [g];rfl
   rw [e3]
   refine Aaa 19 rfl (Aab ?_);exact Aay (retd rfl ⟨_,AaA rfl⟩)
  ·have e1:topV L=nameL.getD (bestN L 14) []:=if_neg g
   have e2:topB L=true:=by unfold topB;exact decide_eq_true g
   rw [e1,e2] at ht
   refine Aac (Aad ?_);refine Aae (Abs rfl rfl (by simp;omega)) rfl rfl rfl rfl ?_
   refine Aaf rfl (by simp [AVal.closed,AaH,AaX,AaL,Abj]) (ht) (by simp [AVal.noref,AVal.flat,norefL,Abo,AbG,AbZ]) rfl rfl rfl rfl rfl ?_
   refine Aaa 5 rfl (Aab (Aac (Aad (Aaa 3 rfl ?_))))
   refine Aae (Aby rfl rfl (Abb (d:=0) (by omega)) rfl) rfl rfl rfl rfl ?_;refine Aaa 4 rfl ?_
   have e3:decide (((L.getD (bestN L 14) 0:Nat):Int)>0)=true:=decide_eq_true (by omega)
   rw [e3]
   refine Aaa 3 rfl ?_;refine Aaf rfl rfl (hr) rfl rfl rfl rfl rfl rfl ?_;refine Aaa 1 rfl ?_
   refine Aae (Aby rfl rfl (Abb (d:=[]) hb') rfl) rfl rfl rfl rfl ?_
   refine Aaa 4 rfl ?_
   have e4:(nameL.getD (bestN L 14) [] == nameL.getD (bestN L 14) [])=true:=beq_self_eq_true _
   rw [e4]
   refine Aaa 9 rfl (Aab ?_);exact Aay (retd rfl ⟨_,AaA rfl⟩)
end Go.Eng.St
namespace Go.Eng.St
open Go Go.Eng
variable [Inhabited GlobT]
attribute [local irreducible] OpR TL TD TC TS AaB
abbrev fl (w:Nat):AVal := .flt .f64 w
abbrev W64 (w:Nat):Prop:=w<18446744073709551616
theorem isNaN_ok (w:Nat) (hw:W64 w):AaB APs AgR [fl w] (.bool (fN w)):=by
 have h:(FloatKind.f64.format.order w w != some .eq)=fN w:=by rw [fo_ne hw hw];simp
 rw [←h]
 refine Aaq (af:=AeR) rfl rfl ?_
 refine Aac (Aad (Aaa 1 rfl (Aab (Aac (Aad (Aaa 4 rfl ?_))))))
 refine Aab ?_;exact Aay (retd rfl ⟨_,AaA rfl⟩)
theorem AvF (w:Nat) (hw:W64 w):AaB APs AcI [fl w] (.bool (fN w)):=by
 have h:(FloatKind.f64.format.order w w != some .eq)=fN w:=by rw [fo_ne hw hw];simp
 rw [←h]
 refine Aaq (af:=AcK) rfl rfl ?_
 refine Aac (Aad (Aaa 1 rfl (Aab (Aac (Aad (Aaa 4 rfl ?_))))))
 refine Aab ?_;exact Aay (retd rfl ⟨_,AaA rfl⟩)
theorem AyV {w:Nat} (hw:W64 w):W64 (Op.negFloat .f64 w)∧fR (Op.negFloat .f64 w)=fR w∧fS (Op.negFloat .f64 w) = !fS w:=by
 have e:Op.negFloat .f64 w=w ^^^ 2^63:=rfl
 have h1:=Nat.xor_mod_two_pow (a:=w) (b:=2^63) (n:=63)
 have h2:=Nat.xor_div_two_pow (a:=w) (b:=2^63) (n:=63)
 rw [e]
 generalize w ^^^ 2^63=v at *
 have h3:w / 2^63=0∨w / 2^63=1:=by unfold W64 at hw;omega
 have h4:(2:Nat)^63%2^63=0:=by decide
 rw [h4,Nat.xor_zero] at h1
 unfold W64 fR fS
 rcases h3 with h | h
 ·rw [h] at h2
  have h2:v / 2^63=1:=h2
  refine⟨by omega,h1,?_⟩
  rw [decide_eq_true (by omega),decide_eq_false (by omega)];rfl
 ·rw [h] at h2
  have h2:v / 2^63=0:=h2
  refine⟨by omega,h1,?_⟩
  rw [decide_eq_false (by omega),decide_eq_true (by omega)];rfl
theorem fN_neg {w:Nat} (hw:W64 w):fN (Op.negFloat .f64 w)=fN w:=by unfold fN;rw [(AyV hw).2.1]
theorem gt_max {w:Nat} (hw:W64 w):(FloatKind.f64.format.order w 9218868437227405311 == some .gt)=(!fN w && !fS w && decide (fR w=infR)):=by
 rw [fo_gt hw (by omega)]
 have h1:fN 9218868437227405311=false:=by decide
 have h2:fK 9218868437227405311=9218868437227405311:=by decide
 rw [h1,h2]
 unfold fK fN infR
 rcases Nat.lt_or_ge 9218868437227405312 (fR w) with h | h
 ·rw [decide_eq_true h];rfl
 ·rw [decide_eq_false (by omega:¬ 9218868437227405312<fR w)]
  cases fS w
  ·simp
   omega
  ·simp
theorem isInf_ok (w:Nat) (hw:W64 w):AaB APs AeO [fl w,.int .i64 1] (.bool (!fN w && !fS w && decide (fR w=infR))):=by
 rw [←gt_max hw]
 refine Aaq (af:=AeS) rfl rfl ?_
 refine Aac (Aad (Aaa 1 rfl (Aab (Aac (Aac (Aad ?_))))))
 refine Aaa 2 rfl (Aab ?_);refine AaC (t:=false) rfl (fun h=>nomatch h) (fun _=>?_);refine Aac (Aad ?_)
 refine Aaa 2 rfl (Aab ?_);refine AaC (t:=false) rfl (fun h=>nomatch h) (fun _=>?_);refine Aas (Aac ?_)
 refine Aad (Aaa 3 rfl (Aab ?_));exact Aay (retd rfl ⟨_,AaA rfl⟩)
theorem isInfM_ok (w:Nat) (hw:W64 w):AaB APs AeO [fl w,.int .i64 (-1)] (.bool (!fN w && fS w && decide (fR w=infR))):=by
 obtain⟨h1,h2,h3⟩:=AyV hw
 have:=gt_max h1
 rw [fN_neg hw,h2,h3,Bool.not_not] at this
 rw [←this]
 refine Aaq (af:=AeS) rfl rfl ?_
 refine Aac (Aad (Aaa 1 rfl (Aab (Aac (Aac (Aad ?_))))))
 refine Aaa 2 rfl (Aab ?_);refine AaC (t:=false) rfl (fun h=>nomatch h) (fun _=>?_);refine Aac (Aad ?_)
 refine Aaa 2 rfl (Aab ?_);refine AaC (t:=true) rfl (fun _=>?_) (fun h=>nomatch h);refine Aad (Aaa 1 rfl ?_)
 refine Aae (o_un rfl rfl) rfl rfl rfl rfl ?_
 refine Aaa 1 rfl (Aab (Aac (Aad (Aaa 3 rfl (Aab ?_)))))
 exact Aay (retd rfl ⟨_,AaA rfl⟩)
theorem AzZ (w:Nat) (hw:W64 w):AaB APs AhJ [fl w] (.bool (fS w)):=by
 have h:decide (IntKind.wrap .i64 (w:Int)<0)=fS w:=by
  unfold fS
  refine decide_eq_decide.2 ?_
  simp [IntKind.wrap,IntKind.signed,IntKind.bits]
  unfold W64 at hw
  split<;>omega
 rw [←h]
 refine Aaq (af:=Aff) rfl rfl ?_
 refine Aac (Aad (Aaa 1 rfl (Aab (Aac (Aad (Aaa 2 rfl ?_))))))
 refine Aae (Anc rfl) rfl rfl rfl rfl ?_
 refine Aaa 2 rfl (Aab ?_);exact Aay (retd rfl ⟨_,AaA rfl⟩)
def kd (w:Nat):Nat:=if fN w then 0 else if fS w then (if fR w=infR then 1 else if fR w=0 then 3 else 2) else (if fR w=infR then 6 else if fR w=0 then 4 else 5)
theorem fo_z (w:Nat) (hw:W64 w):(FloatKind.f64.format.order w 0 == some .lt)=(!fN w && decide (fK w<0))∧(FloatKind.f64.format.order w 0 == some .eq)=(!fN w && decide (fK w=0)):=by
 have h1:fN 0=false:=by decide
 have h2:fK 0=0:=by decide
 rw [fo_lt hw (by omega),fo_eq hw (by omega),h1,h2]
 simp
theorem kind_ok (w:Nat) (hw:W64 w):AaB APs Aer [fl w] (.int .i64 (kd w:Int)):=by
 have hn:=isNaN_ok w hw
 have hi:=isInf_ok w hw
 have hm:=isInfM_ok w hw
 have hs:=AzZ w hw
 obtain⟨hz,he⟩:=fo_z w hw
 have hR:=fR_lt w
 unfold kd
 by_cases c0:fN w=true
 ·rw [c0] at hn ⊢
  refine Aaq (af:=AbL) rfl rfl ?_
  refine Aac (Aad (Aaa 1 rfl (Aab (Aac ?_))));refine Aaj ?_;refine Aac (Aad ?_)
  refine Aaa 1 rfl ?_;refine Aaf rfl rfl (hn) rfl rfl rfl rfl rfl rfl ?_;refine Aaa 1 rfl (Aab ?_)
  refine AaC (t:=true) rfl (fun _=>?_) (fun h=>nomatch h);refine Aac (Aad (Aaa 1 rfl (Aab ?_)))
  exact Aay (retd rfl ⟨_,AaA rfl⟩)
 have c0:fN w=false:=by simpa using c0
 rw [c0] at hn hi hm hz he ⊢
 by_cases c2:fR w=infR
 ·rw [decide_eq_true c2] at hi hm
  cases c1:fS w
  ·rw [c1] at hi hm
   have k:fK w=infR:=by unfold fK;rw [c1,c2];rfl
   rw [k] at hz he
   rw [if_pos c2,if_pos c2]
   refine Aaq (af:=AbL) rfl rfl ?_
   refine Aac (Aad (Aaa 1 rfl (Aab (Aac ?_))));refine Aaj ?_;refine Aac (Aad ?_)
   refine Aaa 1 rfl ?_;refine Aaf rfl rfl (hn) rfl rfl rfl rfl rfl rfl ?_;refine Aaa 1 rfl (Aab ?_)
   refine AaC (t:=false) rfl (fun h=>nomatch h) (fun _=>?_);refine Aac (Aad (Aaa 1 rfl ?_))
   refine Aaf rfl rfl (hm) rfl rfl rfl rfl rfl rfl ?_;refine Aaa 1 rfl (Aab ?_)
   refine AaC (t:=false) rfl (fun h=>nomatch h) (fun _=>?_);refine Aac (Aad (Aaa 3 rfl (Aab ?_)))
   rw [show (FloatKind.f64.format.order w 0 == some .lt)=false from hz]
   refine AaC (t:=false) rfl (fun h=>nomatch h) (fun _=>?_);refine Aac (Aad (Aaa 3 rfl ?_))
   rw [show (FloatKind.f64.format.order w 0 == some .eq)=false from he]
   refine Aaa 4 rfl (Aab ?_);refine AaC (t:=false) rfl (fun h=>nomatch h) (fun _=>?_);refine Aac (Aad ?_)
   refine Aaa 3 rfl (Aab ?_)
   rw [show (FloatKind.f64.format.order w 0 == some .eq)=false from he]
   refine AaC (t:=false) rfl (fun h=>nomatch h) (fun _=>?_);refine Aac (Aad (Aaa 1 rfl ?_))
   refine Aaf rfl rfl (hi) rfl rfl rfl rfl rfl rfl ?_;refine Aaa 1 rfl (Aab ?_)
   refine AaC (t:=true) rfl (fun _=>?_) (fun h=>nomatch h);refine Aac (Aad (Aaa 1 rfl (Aab ?_)))
   exact Aay (retd rfl ⟨_,AaA rfl⟩)
  ·rw [c1] at hi hm
   rw [if_pos c2,if_pos c2]
   refine Aaq (af:=AbL) rfl rfl ?_
   refine Aac (Aad (Aaa 1 rfl (Aab (Aac ?_))));refine Aaj ?_;refine Aac (Aad ?_)
   refine Aaa 1 rfl ?_;refine Aaf rfl rfl (hn) rfl rfl rfl rfl rfl rfl ?_;refine Aaa 1 rfl (Aab ?_)
   refine AaC (t:=false) rfl (fun h=>nomatch h) (fun _=>?_);refine Aac (Aad (Aaa 1 rfl ?_))
   refine Aaf rfl rfl (hm) rfl rfl rfl rfl rfl rfl ?_;refine Aaa 1 rfl (Aab ?_)
   refine AaC (t:=true) rfl (fun _=>?_) (fun h=>nomatch h);refine Aac (Aad (Aaa 1 rfl (Aab ?_)))
   exact Aay (retd rfl ⟨_,AaA rfl⟩)
 rw [decide_eq_false c2] at hi hm
 by_cases c3:fR w=0
 ·have k:fK w=0:=by unfold fK;rw [c3];cases fS w<;>rfl
  rw [k] at hz he
  rw [if_neg c2,if_neg c2,if_pos c3,if_pos c3]
  cases c1:fS w
  ·rw [c1] at hi hm hs
   refine Aaq (af:=AbL) rfl rfl ?_
   refine Aac (Aad (Aaa 1 rfl (Aab (Aac ?_))));refine Aaj ?_;refine Aac (Aad ?_)
   refine Aaa 1 rfl ?_;refine Aaf rfl rfl (hn) rfl rfl rfl rfl rfl rfl ?_;refine Aaa 1 rfl (Aab ?_)
   refine AaC (t:=false) rfl (fun h=>nomatch h) (fun _=>?_);refine Aac (Aad (Aaa 1 rfl ?_))
   refine Aaf rfl rfl (hm) rfl rfl rfl rfl rfl rfl ?_;refine Aaa 1 rfl (Aab ?_)
   refine AaC (t:=false) rfl (fun h=>nomatch h) (fun _=>?_);refine Aac (Aad (Aaa 3 rfl (Aab ?_)))
   rw [show (FloatKind.f64.format.order w 0 == some .lt)=false from hz]
   refine AaC (t:=false) rfl (fun h=>nomatch h) (fun _=>?_);refine Aac (Aad (Aaa 3 rfl ?_))
   rw [show (FloatKind.f64.format.order w 0 == some .eq)=true from he]
   refine Aaa 1 rfl ?_;refine Aaf rfl rfl (hs) rfl rfl rfl rfl rfl rfl ?_;refine Aaa 2 rfl (Aab ?_)
   refine AaC (t:=false) rfl (fun h=>nomatch h) (fun _=>?_);refine Aac (Aad (Aaa 3 rfl (Aab ?_)))
   rw [show (FloatKind.f64.format.order w 0 == some .eq)=true from he]
   refine AaC (t:=true) rfl (fun _=>?_) (fun h=>nomatch h);refine Aac (Aad (Aaa 1 rfl (Aab ?_)))
   exact Aay (retd rfl ⟨_,AaA rfl⟩)
  ·rw [c1] at hi hm hs
   refine Aaq (af:=AbL) rfl rfl ?_
   refine Aac (Aad (Aaa 1 rfl (Aab (Aac ?_))));refine Aaj ?_;refine Aac (Aad ?_)
   refine Aaa 1 rfl ?_;refine Aaf rfl rfl (hn) rfl rfl rfl rfl rfl rfl ?_;refine Aaa 1 rfl (Aab ?_)
   refine AaC (t:=false) rfl (fun h=>nomatch h) (fun _=>?_);refine Aac (Aad (Aaa 1 rfl ?_))
   refine Aaf rfl rfl (hm) rfl rfl rfl rfl rfl rfl ?_;refine Aaa 1 rfl (Aab ?_)
   refine AaC (t:=false) rfl (fun h=>nomatch h) (fun _=>?_);refine Aac (Aad (Aaa 3 rfl (Aab ?_)))
   rw [show (FloatKind.f64.format.order w 0 == some .lt)=false from hz]
   refine AaC (t:=false) rfl (fun h=>nomatch h) (fun _=>?_);refine Aac (Aad (Aaa 3 rfl ?_))
   rw [show (FloatKind.f64.format.order w 0 == some .eq)=true from he]
   refine Aaa 1 rfl ?_;refine Aaf rfl rfl (hs) rfl rfl rfl rfl rfl rfl ?_;refine Aaa 2 rfl (Aab ?_)
   refine AaC (t:=true) rfl (fun _=>?_) (fun h=>nomatch h);refine Aac (Aad (Aaa 1 rfl (Aab ?_)))
   exact Aay (retd rfl ⟨_,AaA rfl⟩)
 ·rw [if_neg c2,if_neg c2,if_neg c3,if_neg c3]
  cases c1:fS w
  ·rw [c1] at hi hm hs
   have k:¬ fK w<0∧¬ fK w=0:=by unfold fK;rw [c1];simp;omega
   rw [decide_eq_false k.1] at hz
   rw [decide_eq_false k.2] at he
   refine Aaq (af:=AbL) rfl rfl ?_
   refine Aac (Aad (Aaa 1 rfl (Aab (Aac ?_))));refine Aaj ?_;refine Aac (Aad ?_)
   refine Aaa 1 rfl ?_;refine Aaf rfl rfl (hn) rfl rfl rfl rfl rfl rfl ?_;refine Aaa 1 rfl (Aab ?_)
   refine AaC (t:=false) rfl (fun h=>nomatch h) (fun _=>?_);refine Aac (Aad (Aaa 1 rfl ?_))
   refine Aaf rfl rfl (hm) rfl rfl rfl rfl rfl rfl ?_;refine Aaa 1 rfl (Aab ?_)
   refine AaC (t:=false) rfl (fun h=>nomatch h) (fun _=>?_);refine Aac (Aad (Aaa 3 rfl (Aab ?_)))
   rw [show (FloatKind.f64.format.order w 0 == some .lt)=false from hz]
   refine AaC (t:=false) rfl (fun h=>nomatch h) (fun _=>?_);refine Aac (Aad (Aaa 3 rfl ?_))
   rw [show (FloatKind.f64.format.order w 0 == some .eq)=false from he]
   refine Aaa 4 rfl (Aab ?_);refine AaC (t:=false) rfl (fun h=>nomatch h) (fun _=>?_);refine Aac (Aad ?_)
   refine Aaa 3 rfl (Aab ?_)
   rw [show (FloatKind.f64.format.order w 0 == some .eq)=false from he]
   refine AaC (t:=false) rfl (fun h=>nomatch h) (fun _=>?_);refine Aac (Aad (Aaa 1 rfl ?_))
   refine Aaf rfl rfl (hi) rfl rfl rfl rfl rfl rfl ?_;refine Aaa 1 rfl (Aab ?_)
   refine AaC (t:=false) rfl (fun h=>nomatch h) (fun _=>?_);refine Aas (Aac (Aad (Aaa 1 rfl ?_)))
   refine Aab ?_;exact Aay (retd rfl ⟨_,AaA rfl⟩)
  ·rw [c1] at hi hm hs
   have k:fK w<0:=by unfold fK;rw [c1];simp;omega
   rw [decide_eq_true k] at hz
   refine Aaq (af:=AbL) rfl rfl ?_
   refine Aac (Aad (Aaa 1 rfl (Aab (Aac ?_))));refine Aaj ?_;refine Aac (Aad ?_)
   refine Aaa 1 rfl ?_;refine Aaf rfl rfl (hn) rfl rfl rfl rfl rfl rfl ?_;refine Aaa 1 rfl (Aab ?_)
   refine AaC (t:=false) rfl (fun h=>nomatch h) (fun _=>?_);refine Aac (Aad (Aaa 1 rfl ?_))
   refine Aaf rfl rfl (hm) rfl rfl rfl rfl rfl rfl ?_;refine Aaa 1 rfl (Aab ?_)
   refine AaC (t:=false) rfl (fun h=>nomatch h) (fun _=>?_);refine Aac (Aad (Aaa 3 rfl (Aab ?_)))
   rw [show (FloatKind.f64.format.order w 0 == some .lt)=true from hz]
   refine AaC (t:=true) rfl (fun _=>?_) (fun h=>nomatch h);refine Aac (Aad (Aaa 1 rfl (Aab ?_)))
   exact Aay (retd rfl ⟨_,AaA rfl⟩)
def cmpI (x y:Int):Int:=if x<y then -1 else if y<x then 1 else 0
theorem AtQ (x:Int):AaB APs Aet [.int .i64 x] (.bool false):=by
 have h:(x != x)=false:=by simp
 rw [←h]
 refine Aaq (af:=Aey) rfl rfl ?_
 refine Aac (Aad (Aaa 1 rfl (Aab (Aac (Aad (Aaa 4 rfl ?_))))))
 refine Aab ?_;exact Aay (retd rfl ⟨_,AaA rfl⟩)
theorem AnP (x y:Int):AaB APs Afz [.int .i64 x,.int .i64 y] (.int .i64 (cmpI x y)):=by
 have h1:=AtQ x
 have h2:=AtQ y
 unfold cmpI
 refine Aaq (af:=Adn) rfl rfl ?_
 refine Aac (Aad (Aaa 1 rfl (Aab (Aac (Aad (Aaa 1 rfl ?_))))))
 refine Aaf rfl rfl (h1) rfl rfl rfl rfl rfl rfl ?_;refine Aaa 1 rfl (Aab (Aac (Aad ?_)))
 refine Aaa 1 rfl ?_;refine Aaf rfl rfl (h2) rfl rfl rfl rfl rfl rfl ?_;refine Aaa 1 rfl (Aab (Aac ?_))
 refine Aac (Aad (Aaa 1 rfl (Aab ?_)));refine AaC (t:=false) rfl (fun h=>nomatch h) (fun _=>?_)
 refine Aas (Aac (Aac (Aad (Aaa 1 rfl (Aab ?_)))))
 refine AaC (t:=false) rfl (fun h=>nomatch h) (fun _=>?_);refine Aas (Aac (Aac (Aad ?_)))
 refine Aaa 3 rfl (Aab ?_)
 refine Aax rfl decide_eq_true_iff (fun h=>?_) (fun h=>?_)
 ·rw [if_pos h];(refine Aac (Aad (Aaa 1 rfl (Aab ?_)));exact Aay (retd rfl ⟨_,AaA rfl⟩))
 rw [if_neg h]
 refine Aas (Aac (Aac (Aad (Aaa 3 rfl (Aab ?_)))))
 refine Aax rfl decide_eq_true_iff (fun h=>?_) (fun h=>?_)
 ·rw [if_pos h];(refine Aac (Aad (Aaa 1 rfl (Aab ?_)));exact Aay (retd rfl ⟨_,AaA rfl⟩))
 rw [if_neg h]
 refine Aas (Aac (Aad (Aaa 1 rfl (Aab ?_))));exact Aay (retd rfl ⟨_,AaA rfl⟩)
theorem AxU (x y:Nat) (hx:W64 x) (hy:W64 y) (nx:fN x=false) (ny:fN y=false):AaB APs AdC [fl x,fl y] (.int .i64 (cmpI (fK x) (fK y))):=by
 have h1:=AvF x hx
 have h2:=AvF y hy
 have hl:=fo_lt hx hy
 have hg:=fo_gt hx hy
 rw [nx] at h1 hl hg
 rw [ny] at h2 hl hg
 unfold cmpI
 refine Aaq (af:=Acu) rfl rfl ?_
 refine Aac (Aad (Aaa 1 rfl (Aab (Aac (Aad (Aaa 1 rfl ?_))))))
 refine Aaf rfl rfl (h1) rfl rfl rfl rfl rfl rfl ?_;refine Aaa 1 rfl (Aab (Aac (Aad ?_)))
 refine Aaa 1 rfl ?_;refine Aaf rfl rfl (h2) rfl rfl rfl rfl rfl rfl ?_;refine Aaa 1 rfl (Aab (Aac ?_))
 refine Aac (Aad (Aaa 1 rfl (Aab ?_)));refine AaC (t:=false) rfl (fun h=>nomatch h) (fun _=>?_)
 refine Aas (Aac (Aac (Aad (Aaa 1 rfl (Aab ?_)))))
 refine AaC (t:=false) rfl (fun h=>nomatch h) (fun _=>?_);refine Aas (Aac (Aac (Aad ?_)))
 refine Aaa 3 rfl (Aab ?_)
 rw [show (FloatKind.f64.format.order x y == some .lt)=decide (fK x<fK y) from hl]
 refine Aax rfl decide_eq_true_iff (fun h=>?_) (fun h=>?_)
 ·rw [if_pos h];(refine Aac (Aad (Aaa 1 rfl (Aab ?_)));exact Aay (retd rfl ⟨_,AaA rfl⟩))
 rw [if_neg h]
 refine Aas (Aac (Aac (Aad (Aaa 3 rfl (Aab ?_)))))
 rw [show (FloatKind.f64.format.order x y == some .gt)=decide (fK y<fK x) from hg]
 refine Aax rfl decide_eq_true_iff (fun h=>?_) (fun h=>?_)
 ·rw [if_pos h];(refine Aac (Aad (Aaa 1 rfl (Aab ?_)));exact Aay (retd rfl ⟨_,AaA rfl⟩))
 rw [if_neg h]
 refine Aas (Aac (Aad (Aaa 1 rfl (Aab ?_))));exact Aay (retd rfl ⟨_,AaA rfl⟩)
def cmpF (a b:Nat):Int:=cmpI (fT a) (fT b)
theorem Amg (w:Nat):(fN w=true∧kd w=0∧fT w = -18446744073709551616)∨(fN w=false∧((kd w=1∧fT w = -9218868437227405313∧fK w = -9218868437227405312) ∨
 (kd w=2∧fT w=fK w - 1∧fK w<0 ∧ -9218868437227405312<fK w)∨(kd w=3∧fT w = -1∧fK w=0)∨(kd w=4∧fT w=0∧fK w=0) ∨
 (kd w=5∧fT w=fK w∧0<fK w∧fK w<9218868437227405312)∨(kd w=6∧fT w=9218868437227405312∧fK w=9218868437227405312))):=by
 have hR:=fR_lt w
 unfold kd fT fK
 cases h:fN w
 ·refine .inr ⟨rfl,?_⟩
  have h2:¬ infR<fR w:=by unfold fN at h;simpa using h
  unfold infR at *
  cases fS w<;>simp only [Bool.false_eq_true,if_false,if_true]
  ·by_cases c1:fR w=9218868437227405312
   ·rw [c1];simp
   ·by_cases c2:fR w=0
    ·rw [c2];simp
    ·simp only [if_neg c1,if_neg c2];simp;omega
  ·by_cases c1:fR w=9218868437227405312
   ·rw [c1];simp
   ·by_cases c2:fR w=0
    ·rw [c2];simp
    ·simp only [if_neg c1,if_neg c2];simp;omega
 ·exact .inl ⟨rfl,rfl,rfl⟩
theorem Ast {x y:Int} (h:x<y):cmpI x y = -1:=if_pos h
theorem AnQ {x y:Int} (h:y<x):cmpI x y=1:=by unfold cmpI;rw [if_neg (by omega),if_pos h]
theorem AxW {x y:Int} (h:x=y):cmpI x y=0:=by unfold cmpI;rw [if_neg (by omega),if_neg (by omega)]
theorem real_cmp (a b:Nat):cmpF a b=if cmpI (kd a) (kd b)≠0 then cmpI (kd a) (kd b) else if kd a=0 then 0 else cmpI (fK a) (fK b):=by
 unfold cmpF
 rcases Amg a with⟨_,h1,h2⟩ | ⟨_,ha⟩
 ·rcases Amg b with⟨_,g1,g2⟩ | ⟨_,hb⟩
  ·rw [h1,h2,g1,g2,AxW rfl,AxW rfl];rfl
  ·rw [Ast (by omega),Ast (by omega:(kd a:Int)<kd b)];rfl
 ·rcases Amg b with⟨_,g1,g2⟩ | ⟨_,hb⟩
  ·rw [AnQ (by omega),AnQ (by omega:(kd b:Int)<kd a)];rfl
  ·rw [if_neg (by omega:¬ kd a=0)]
   rcases Nat.lt_trichotomy (kd a) (kd b) with h | h | h
   ·rw [Ast (by omega),Ast (by omega:(kd a:Int)<kd b)];rfl
   ·rw [AxW (by omega:(kd a:Int)=kd b),if_neg (by decide)]
    have e1:fT a<fT b↔fK a<fK b:=by omega
    have e2:fT b<fT a↔fK b<fK a:=by omega
    unfold cmpI
    simp only [e1,e2]
   ·rw [AnQ (by omega),AnQ (by omega:(kd b:Int)<kd a)];rfl
theorem kd0 (w:Nat):(kd w=0)↔fN w=true:=by
 rcases Amg w with⟨h,h1,_⟩ | ⟨h,h1⟩
 ·rw [h,h1];simp
 ·rw [h];simp;omega
theorem cmp_ok (a b:Nat) (ha:W64 a) (hb:W64 b):AaB APs Akr [fl a,fl b] (.int .i64 (cmpF a b)):=by
 have h1:=kind_ok a ha
 have h2:=kind_ok b hb
 have h3:=AnP (kd a) (kd b)
 rw [real_cmp]
 refine Aaq (af:=AhC) rfl rfl ?_
 refine Aac (Aad (Aaa 1 rfl (Aab (Aac (Aac (Aad ?_))))))
 refine Aaa 1 rfl ?_;refine Aaf rfl rfl (h1) rfl rfl rfl rfl rfl rfl ?_;refine Aaa 1 rfl ?_
 refine Aaf rfl rfl (h2) rfl rfl rfl rfl rfl rfl ?_;refine Aaf rfl rfl (h3) rfl rfl rfl rfl rfl rfl ?_;refine Aaa 1 rfl ?_
 refine Aab (Aac (Aad (Aaa 2 rfl (Aab ?_))))
 refine Aax rfl bne_iff_ne (fun h=>?_) (fun h=>Aas ?_)
 ·rw [if_pos h];(refine Aac (Aad (Aaa 2 rfl (Aab ?_)));exact Aay (retd rfl ⟨_,AaA rfl⟩))
 rw [if_neg h]
 refine Aac (Aac (Aad (Aaa 1 rfl ?_)));refine Aaf rfl rfl (h1) rfl rfl rfl rfl rfl rfl ?_
 refine Aaa 1 rfl (Aab ?_)
 refine Aax rfl beq_iff_eq (fun g=>?_) (fun g=>Aas ?_)
 ·rw [if_pos (by omega)];(refine Aac (Aad (Aaa 1 rfl (Aab ?_)));exact Aay (retd rfl ⟨_,AaA rfl⟩))
 rw [if_neg (by omega)]
 have n1:fN a=false:=by
  cases h:fN a
  ·rfl
  ·exact absurd ((kd0 a).2 h) (by omega)
 have n2:fN b=false:=by
  cases h':fN b
  ·rfl
  ·have:=(kd0 b).2 h'
   rw [this] at h
   exact absurd (show cmpI (kd a) ((0:Nat):Int)≠0 by rw [AnQ (by omega)];decide) h
 have h4:=AxU a b ha hb n1 n2
 refine Aac (Aad (Aaa 2 rfl ?_));refine Aaf rfl rfl (h4) rfl rfl rfl rfl rfl rfl ?_;refine Aaa 1 rfl ?_
 refine Aab ?_;exact Aay (retd rfl ⟨_,AaA rfl⟩)
theorem cmpI_zero (x y:Int):cmpI x y=0↔x=y:=by unfold cmpI;split<;>(try split)<;>omega
def sameF (a b:Nat):Bool:=decide (fT a=fT b)
theorem AvS (a b:Nat) (ha:W64 a) (hb:W64 b):AaB APs AcH [fl a,fl b] (.bool (sameF a b)):=by
 have h1:=cmp_ok a b ha hb
 have e:(cmpF a b == 0)=sameF a b:=by
  unfold sameF cmpF
  rw [Bool.eq_iff_iff];simp [cmpI_zero]
 rw [←e]
 refine Aaq (af:=AfW) rfl rfl ?_
 refine Aac (Aad (Aaa 1 rfl (Aab (Aac (Aad (Aaa 2 rfl ?_))))))
 refine Aaf rfl rfl (h1) rfl rfl rfl rfl rfl rfl ?_;refine Aaa 2 rfl (Aab ?_);exact Aay (retd rfl ⟨_,AaA rfl⟩)
end Go.Eng.St
namespace Go.Eng.St
open Go Go.Eng
variable [Inhabited GlobT]
attribute [local irreducible] OpR TL TD TC TS AaB
abbrev nv:AVal := .nanv .f64
theorem isNaNN_ok:AaB APs AgR [nv] (.bool true):=by
 refine Aaq (af:=AeR) rfl rfl ?_
 refine Aac (Aad (Aaa 1 rfl (Aab (Aac (Aad (Aaa 4 rfl ?_))))))
 refine Aab ?_;exact Aay (retd rfl ⟨_,AaA rfl⟩)
theorem kindN_ok:AaB APs Aer [nv] (.int .i64 0):=by
 have h:=isNaNN_ok
 refine Aaq (af:=AbL) rfl rfl ?_
 refine Aac (Aad (Aaa 1 rfl (Aab (Aac ?_))));refine Aaj ?_;refine Aac (Aad ?_)
 refine Aaa 1 rfl ?_;refine Aaf rfl rfl (h) rfl rfl rfl rfl rfl rfl ?_;refine Aaa 1 rfl (Aab ?_)
 refine AaC (t:=true) rfl (fun _=>?_) (fun h=>nomatch h);refine Aac (Aad (Aaa 1 rfl (Aab ?_)))
 exact Aay (retd rfl ⟨_,AaA rfl⟩)
theorem cmpN_ok:AaB APs Akr [nv,nv] (.int .i64 0):=by
 have h1:=kindN_ok
 have h3:=AnP 0 0
 refine Aaq (af:=AhC) rfl rfl ?_
 refine Aac (Aad (Aaa 1 rfl (Aab (Aac (Aac (Aad ?_))))))
 refine Aaa 1 rfl ?_;refine Aaf rfl rfl (h1) rfl rfl rfl rfl rfl rfl ?_;refine Aaa 1 rfl ?_
 refine Aaf rfl rfl (h1) rfl rfl rfl rfl rfl rfl ?_;refine Aaf rfl rfl (h3) rfl rfl rfl rfl rfl rfl ?_;refine Aaa 1 rfl ?_
 refine Aab (Aac (Aad (Aaa 2 rfl (Aab ?_))))
 refine AaC (t:=false) rfl (fun h=>nomatch h) (fun _=>?_);refine Aas (Aac (Aac (Aad ?_)))
 refine Aaa 1 rfl ?_;refine Aaf rfl rfl (h1) rfl rfl rfl rfl rfl rfl ?_;refine Aaa 1 rfl (Aab ?_)
 refine AaC (t:=true) rfl (fun _=>?_) (fun h=>nomatch h);refine Aac (Aad (Aaa 1 rfl (Aab ?_)))
 exact Aay (retd rfl ⟨_,AaA rfl⟩)
theorem AyD:AaB APs AcH [nv,nv] (.bool true):=by
 have h1:=cmpN_ok
 refine Aaq (af:=AfW) rfl rfl ?_
 refine Aac (Aad (Aaa 1 rfl (Aab (Aac (Aad (Aaa 2 rfl ?_))))))
 refine Aaf rfl rfl (h1) rfl rfl rfl rfl rfl rfl ?_;refine Aaa 2 rfl (Aab ?_);exact Aay (retd rfl ⟨_,AaA rfl⟩)
def quoV (x y:Nat):AVal:=fltOr .f64 (FloatKind.f64.format.div x y)
def partV (x y:Nat):AVal:=match FloatKind.f64.format.add (FloatKind.nearest .f64 (x:Int)) (FloatKind.nearest .f64 (y:Int)) with
 | some s=>quoV (FloatKind.nearest .f64 (x:Int)) s
 | none=>nv
theorem Bcx (x y:Nat):AaB APs AhX [u6 x,u6 y] (partV x y):=by
 cases hA:FloatKind.f64.format.add (FloatKind.nearest .f64 (x:Int)) (FloatKind.nearest .f64 (y:Int)) with
 | none =>
   rw [show partV x y=nv by unfold partV;rw [hA]]
   refine Aaq (af:=Aeu) rfl rfl ?_
   refine Aac (Aad (Aaa 1 rfl (Aab (Aac (Aad (Aaa 6 rfl ?_))))))
   refine Aab (Aac (Aad (Aaa 3 rfl ?_)))
   refine Aae (Aar (v:=nv) rfl rfl (by show some (fltOr .f64 _)=_;rw [hA];rfl)) rfl rfl rfl rfl ?_
   refine Aae (Aar (v:=nv) rfl rfl rfl) rfl rfl rfl rfl ?_
   refine Aaa 1 rfl (Aab ?_);exact Aay (retd rfl ⟨_,AaA rfl⟩)
 | some s =>
   cases hD:FloatKind.f64.format.div (FloatKind.nearest .f64 (x:Int)) s with
   | none =>
     rw [show partV x y=nv by unfold partV quoV;rw [hA];dsimp only;rw [hD];rfl]
     refine Aaq (af:=Aeu) rfl rfl ?_
     refine Aac (Aad (Aaa 1 rfl (Aab (Aac (Aad (Aaa 6 rfl ?_))))))
     refine Aab (Aac (Aad (Aaa 3 rfl ?_)))
     refine Aae (Aar (v:=fl s) rfl rfl (by show some (fltOr .f64 _)=_;rw [hA];rfl)) rfl rfl rfl rfl ?_
     refine Aae (Aar (v:=nv) rfl rfl (by show some (fltOr .f64 _)=_;rw [hD];rfl)) rfl rfl rfl rfl ?_
     refine Aaa 1 rfl (Aab ?_);exact Aay (retd rfl ⟨_,AaA rfl⟩)
   | some w =>
     rw [show partV x y=fl w by unfold partV quoV;rw [hA];dsimp only;rw [hD];rfl]
     refine Aaq (af:=Aeu) rfl rfl ?_
     refine Aac (Aad (Aaa 1 rfl (Aab (Aac (Aad (Aaa 6 rfl ?_))))))
     refine Aab (Aac (Aad (Aaa 3 rfl ?_)))
     refine Aae (Aar (v:=fl s) rfl rfl (by show some (fltOr .f64 _)=_;rw [hA];rfl)) rfl rfl rfl rfl ?_
     refine Aae (Aar (v:=fl w) rfl rfl (by show some (fltOr .f64 _)=_;rw [hD];rfl)) rfl rfl rfl rfl ?_
     refine Aaa 1 rfl (Aab ?_);exact Aay (retd rfl ⟨_,AaA rfl⟩)
theorem AyF (x y:Nat):AaB APs Aks [u6 x,u6 y] (partV x y):=by
 cases hA:FloatKind.f64.format.add (FloatKind.nearest .f64 (x:Int)) (FloatKind.nearest .f64 (y:Int)) with
 | none =>
   rw [show partV x y=nv by unfold partV;rw [hA]]
   refine Aaq (af:=AfC) rfl rfl ?_
   refine Aac (Aad (Aaa 1 rfl (Aab (Aac (Aad (Aaa 4 rfl ?_))))))
   refine Aae (Aar (v:=nv) rfl rfl (by show some (fltOr .f64 _)=_;rw [hA];rfl)) rfl rfl rfl rfl ?_
   refine Aaa 1 rfl (Aab (Aac (Aad (Aaa 3 rfl ?_))))
   refine Aae (Aar (v:=nv) rfl rfl rfl) rfl rfl rfl rfl ?_
   refine Aaa 1 rfl (Aab ?_);exact Aay (retd rfl ⟨_,AaA rfl⟩)
 | some s =>
   cases hD:FloatKind.f64.format.div (FloatKind.nearest .f64 (x:Int)) s with
   | none =>
     rw [show partV x y=nv by unfold partV quoV;rw [hA];dsimp only;rw [hD];rfl]
     refine Aaq (af:=AfC) rfl rfl ?_
     refine Aac (Aad (Aaa 1 rfl (Aab (Aac (Aad (Aaa 4 rfl ?_))))))
     refine Aae (Aar (v:=fl s) rfl rfl (by show some (fltOr .f64 _)=_;rw [hA];rfl)) rfl rfl rfl rfl ?_
     refine Aaa 1 rfl (Aab (Aac (Aad (Aaa 3 rfl ?_))))
     refine Aae (Aar (v:=nv) rfl rfl (by show some (fltOr .f64 _)=_;rw [hD];rfl)) rfl rfl rfl rfl ?_
     refine Aaa 1 rfl (Aab ?_);exact Aay (retd rfl ⟨_,AaA rfl⟩)
   | some w =>
     rw [show partV x y=fl w by unfold partV quoV;rw [hA];dsimp only;rw [hD];rfl]
     refine Aaq (af:=AfC) rfl rfl ?_
     refine Aac (Aad (Aaa 1 rfl (Aab (Aac (Aad (Aaa 4 rfl ?_))))))
     refine Aae (Aar (v:=fl s) rfl rfl (by show some (fltOr .f64 _)=_;rw [hA];rfl)) rfl rfl rfl rfl ?_
     refine Aaa 1 rfl (Aab (Aac (Aad (Aaa 3 rfl ?_))))
     refine Aae (Aar (v:=fl w) rfl rfl (by show some (fltOr .f64 _)=_;rw [hD];rfl)) rfl rfl rfl rfl ?_
     refine Aaa 1 rfl (Aab ?_);exact Aay (retd rfl ⟨_,AaA rfl⟩)
theorem rate_ok (L:List Nat) (h:OkL L) (s:List UInt8) (t:Nat):AaB APs Agi [.agg (cl L),.str s,u6 t] (quoV (FloatKind.nearest .f64 (getV L s:Int)) (FloatKind.nearest .f64 (t:Int))):=by
 have h1:=Afr L h s
 obtain⟨c0,c1,c2,c3,c4,c5,c6,c7,c8,c9,c10,c11,c12,c13,hL⟩:=of14 h
 refine Aaq (af:=AdP) rfl rfl ?_
 generalize getV L s=n at *
 subst hL
 refine Aac (Aad (Aaa 2 rfl (Aab (Aac (Aad (Aaa 2 rfl ?_))))))
 refine Aaf rfl rfl (h1) rfl rfl rfl rfl rfl rfl ?_;refine Aaa 5 rfl (Aab (Aac (Aad ?_)))
 refine Aaa 4 rfl ?_
 refine Aae (Aar (v:=quoV (FloatKind.nearest .f64 (n:Int)) (FloatKind.nearest .f64 (t:Int))) rfl rfl rfl) rfl rfl rfl rfl ?_
 unfold quoV
 cases FloatKind.f64.format.div (FloatKind.nearest .f64 (n:Int)) (FloatKind.nearest .f64 (t:Int))
 ·refine Aaa 1 rfl (Aab ?_);exact Aay (retd rfl ⟨_,AaA rfl⟩)
 ·refine Aaa 1 rfl (Aab ?_);exact Aay (retd rfl ⟨_,AaA rfl⟩)
theorem AlZ (x y:Nat):partV x y=nv∨∃ w,partV x y=fl w:=by
 unfold partV
 cases FloatKind.f64.format.add (FloatKind.nearest .f64 (x:Int)) (FloatKind.nearest .f64 (y:Int)) with
 | none=>exact .inl rfl
 | some s =>
   dsimp only
   unfold quoV
   cases FloatKind.f64.format.div (FloatKind.nearest .f64 (x:Int)) s with
   | none=>exact .inl rfl
   | some w=>exact .inr ⟨w,rfl⟩
theorem share_ok (L:List Nat) (h:OkL L) (s t:List UInt8):AaB APs Afv [.agg (cl L),.str s,.str t] (partV (getV L s) (getV L t)):=by
 have h1:=Afr L h s
 have h2:=Afr L h t
 have h3:=Bcx (getV L s) (getV L t)
 obtain⟨c0,c1,c2,c3,c4,c5,c6,c7,c8,c9,c10,c11,c12,c13,hL⟩:=of14 h
 refine Aaq (af:=Adk) rfl rfl ?_
 have h4:=AlZ (getV L s) (getV L t)
 generalize partV (getV L s) (getV L t)=v at *
 generalize getV L s=n at *
 generalize getV L t=m at *
 subst hL
 rcases h4 with rfl | ⟨w,rfl⟩<;>(refine Aac (Aad (Aaa 2 rfl (Aab (Aac (Aad (Aaa 2 rfl ?_))))));refine Aaf rfl rfl (h1) rfl rfl rfl rfl rfl rfl ?_;refine Aaa 5 rfl (Aab (Aac (Aad (Aaa 2 rfl ?_))));refine Aaf rfl rfl (h2) rfl rfl rfl rfl rfl rfl ?_;refine Aaa 5 rfl (Aab (Aac (Aad (Aaa 2 rfl ?_))));refine Aaf rfl rfl (h3) rfl rfl rfl rfl rfl rfl ?_;refine Aaa 1 rfl (Aab ?_);exact Aay (retd rfl ⟨_,AaA rfl⟩))
end Go.Eng.St
namespace Go.Eng.St
open Go Go.Eng
variable [Inhabited GlobT]
attribute [local irreducible] OpR TL TD TC TS AaB
theorem list_ok (L:List Nat) (h:OkL L):AaB APs ApO [.agg (cl L)] (.imm (L.map fun x=>[u6 x])):=by
 obtain⟨c0,c1,c2,c3,c4,c5,c6,c7,c8,c9,c10,c11,c12,c13,rfl⟩:=of14 h
 refine Aaq (af:=AkV) rfl rfl ?_
 refine Aac (Aad (Aaa 2 rfl (Aab (Aac (Aad (Aaa 28 rfl ?_))))))
 refine Aae (Abc rfl rfl rfl) rfl rfl rfl rfl ?_;refine Aaa 1 rfl (Aab ?_);exact Aay (AlU rfl rfl)
theorem AxS (s:List UInt8):AaB APs AbT [namesV,.str s] (.bool (decide (s∈nameL))):=by
 have hi:=Azh nameL (by decide) s
 refine Aaq (af:=Abq) rfl rfl ?_
 by_cases hm:s∈nameL
 ·have e1:idxI nameL s=((nameL.idxOf s:Nat):Int):=if_pos hm
  rw [e1] at hi
  rw [decide_eq_true hm]
  generalize nameL.idxOf s=i at *
  refine Aac (Aad (Aaa 1 rfl (Aab (Aac (Aad (Aaa 2 rfl ?_))))))
  refine Aaf rfl rfl (hi) rfl rfl rfl rfl rfl rfl ?_;refine Aaa 2 rfl (Aab ?_);exact Aay (retd rfl ⟨_,AaA rfl⟩)
 ·have e1:idxI nameL s = -1:=if_neg hm
  rw [e1] at hi
  rw [decide_eq_false hm]
  refine Aac (Aad (Aaa 1 rfl (Aab (Aac (Aad (Aaa 2 rfl ?_))))))
  refine Aaf rfl rfl (hi) rfl rfl rfl rfl rfl rfl ?_;refine Aaa 2 rfl (Aab ?_);exact Aay (retd rfl ⟨_,AaA rfl⟩)
theorem equalS_ok:AaB APs Ack [namesV,namesV] (.bool true):=by
 exact AhB 60 (by kernel_rfl)
theorem Amf (x y:Nat) (hx:x<18446744073709551616) (hy:y<18446744073709551616):AaB APs Aes [u6 x,u6 y] (u6 (satN x y)):=by
 refine Aaq (af:=AiD) rfl rfl ?_
 by_cases c:x+y<18446744073709551616
 ·rw [show satN x y=x+y from if_neg (by omega)]
  refine Aac (Aad (Aaa 1 rfl (Aab (Aac (Aac (Aad ?_))))))
  refine Aaa 2 rfl ?_;refine Aae (AtG rfl rfl (Acj (by omega))) rfl rfl rfl rfl ?_;refine Aaa 2 rfl (Aab ?_)
  rw [show decide (((x+y:Nat):Int)<(x:Int))=false from decide_eq_false (by omega)]
  refine AaC (t:=false) rfl (fun h=>nomatch h) (fun _=>?_);refine Aas (Aac (Aad (Aaa 2 rfl ?_)))
  refine Aae (AtG rfl rfl (Acj (by omega))) rfl rfl rfl rfl ?_;refine Aaa 1 rfl (Aab ?_)
  exact Aay (retd rfl ⟨_,AaA rfl⟩)
 ·rw [show satN x y=18446744073709551615 from if_pos (by omega)]
  refine Aac (Aad (Aaa 1 rfl (Aab (Aac (Aac (Aad ?_))))))
  refine Aaa 2 rfl ?_
  refine Aae (Aar (v:=u6 (x+y - 18446744073709551616)) rfl rfl (by
   show some (AVal.int .u64 (IntKind.u64.wrap ((x:Int)+(y:Int))))=_
   rw [show IntKind.u64.wrap ((x:Int)+(y:Int))=((x+y - 18446744073709551616:Nat):Int) by simp [IntKind.wrap,IntKind.signed,IntKind.bits];omega])) rfl rfl rfl rfl ?_
  refine Aaa 2 rfl (Aab ?_)
  rw [show decide (((x+y - 18446744073709551616:Nat):Int)<(x:Int))=true from decide_eq_true (by omega)]
  refine AaC (t:=true) rfl (fun _=>?_) (fun h=>nomatch h);refine Aac (Aad (Aaa 1 rfl (Aab ?_)))
  exact Aay (retd rfl ⟨_,AaA rfl⟩)
theorem Bcl (L:List Nat) (h:OkL L) (s:List UInt8):AaB APs Ans [.imm (L.map fun x=>[u6 x]),.str s] (u6 (getV L s)):=by
 have hn:=AmL
 have hlen:=h.1
 have hml:(L.map fun x=>[u6 x]).length=14:=by rw [List.length_map,hlen]
 refine Aaq (af:=AnY) rfl rfl ?_
 refine Aac (Aad (Aaa 1 rfl (Aab (Aac (Aac (Aad ?_))))))
 refine Aaf rfl rfl (hn) rfl rfl rfl rfl rfl rfl ?_;refine Aaa 2 rfl (Aab ?_)
 refine Aaj (AaJ (σ:=Nat) (fun i=>14 - i) (fun i=>[(0,.imm (L.map fun x=>[u6 x])),(1,.str s),(7,namesV),(8,.int .i64 (14:Int)),(9,.int .i64 (i:Int))])
  (fun i S=>i≤14∧S=[]∧∀ j,j<i→nameL.getD j []≠s) 0 (by (repeat' (first | exact Aav | refine Aal rfl ?_))) ⟨by omega,rfl,fun j h=>absurd h (by omega)⟩ ?_)
 rintro i S ⟨hi,rfl,hne⟩
 refine Aac (Aad (Aaa 1 rfl (Aab (Aac ?_))))
 refine Aax rfl decide_eq_true_iff (fun c=>Aas ?_) (fun c=>AaG ?_)
 ·have hi':i<14:=by omega
  have hli:i<nameL.length:=hi'
  have hll:i<L.length:=by omega
  refine Aac ?_;refine Aaj ?_;refine Aac (Aad (Aaa 1 rfl ?_))
  refine Aae (Aby rfl rfl (Abb (d:=[]) hli) rfl) rfl rfl rfl rfl ?_
  refine Aaa 3 rfl (Aab (Aac (Aad (Aaa 3 rfl (Aab ?_)))))
  refine Aax rfl beq_iff_eq (fun e=>?_) (fun e=>Aas ?_)
  ·have hg:=(AcX L hi').1
   rw [e] at hg
   rw [hg]
   refine Aac (Aad (Aaa 2 rfl ?_));refine Aae (Aby rfl rfl (Abb (d:=0) (by omega)) rfl) rfl rfl rfl rfl ?_
   refine Aaa 2 rfl (Aab ?_);exact Aay (retd rfl ⟨_,AaA rfl⟩)
  ·refine Aad ?_;refine Aae (AaK (b:=1) rfl rfl (by omega)) rfl rfl rfl rfl ?_;refine Aaa 1 rfl (Aab ?_)
   refine⟨i+1,by omega,by (repeat' (first | exact Aav | refine Aal rfl ?_)),by omega,rfl,fun j hj=>?_⟩
   rcases Nat.lt_or_ge j i with k | k
   ·exact hne j k
   ·rw [show j=i by omega];exact e
 ·have:i=14:=by omega
  subst this
  have hg:getV L s=0:=if_neg fun hm=>by
   obtain⟨j,hj,hs⟩:=List.mem_iff_getElem.1 hm
   refine hne j hj ?_
   rw [List.getD_eq_getElem?_getD,List.getElem?_eq_getElem hj,hs];rfl
  rw [hg]
  refine Aac (Aad (Aaa 1 rfl (Aab ?_)));exact Aay (retd rfl ⟨_,AaA rfl⟩)
def lossN:AVal := .lim [[.str [98,97,100]],[.str [117,110,107,110,111,119,110]],[.str [101,109,112,116,121]],[.str [100,114,111,112,112,101,100]],[.str [114,101,106,101,99,116,101,100]]]
def lossS (a b c d e:Nat):Nat→Nat
 | 0=>0
 | 1=>a
 | 2=>b
 | 3=>c
 | 4=>d
 | _=>e
theorem loss_ok (L:List Nat) (h:OkL L):AaB APs Agj [.agg (cl L)] (partV (satN (satN (satN (satN (L.getD 3 0) (L.getD 4 0)) (L.getD 5 0)) (L.getD 6 0)) (L.getD 7 0)) (L.getD 8 0)):=by
 have g3:=Afr L h (nameL.getD 3 [])
 have g4:=Afr L h (nameL.getD 4 [])
 have g5:=Afr L h (nameL.getD 5 [])
 have g6:=Afr L h (nameL.getD 6 [])
 have g7:=Afr L h (nameL.getD 7 [])
 have g8:=Afr L h (nameL.getD 8 [])
 rw [(AcX L (by decide:3<14)).1,(AcX L (by decide:3<14)).2] at g3
 rw [(AcX L (by decide:4<14)).1,(AcX L (by decide:4<14)).2] at g4
 rw [(AcX L (by decide:5<14)).1,(AcX L (by decide:5<14)).2] at g5
 rw [(AcX L (by decide:6<14)).1,(AcX L (by decide:6<14)).2] at g6
 rw [(AcX L (by decide:7<14)).1,(AcX L (by decide:7<14)).2] at g7
 rw [(AcX L (by decide:8<14)).1,(AcX L (by decide:8<14)).2] at g8
 have b3:=h.get 3
 have b4:=h.get 4
 have b5:=h.get 5
 have b6:=h.get 6
 have b7:=h.get 7
 generalize L.getD 3 0=x3 at *
 generalize L.getD 4 0=x4 at *
 generalize L.getD 5 0=x5 at *
 generalize L.getD 6 0=x6 at *
 generalize L.getD 7 0=x7 at *
 generalize L.getD 8 0=x8 at *
 have a3:=AhK 0 x3 (by omega) b3
 rw [show satN 0 x3=x3 by unfold satN;rw [if_neg (by omega)];omega] at a3
 have a4:=AhK x3 x4 b3 b4
 have l4:=Akf (y:=x4) b3
 generalize satN x3 x4=y4 at *
 have a5:=AhK y4 x5 l4 b5
 have l5:=Akf (y:=x5) l4
 generalize satN y4 x5=y5 at *
 have a6:=AhK y5 x6 l5 b6
 have l6:=Akf (y:=x6) l5
 generalize satN y5 x6=y6 at *
 have a7:=AhK y6 x7 l6 b7
 generalize satN y6 x7=y7 at *
 have hp:=Bcx y7 x8
 have h4:=AlZ y7 x8
 generalize partV y7 x8=v at *
 obtain⟨c0,c1,c2,c3,c4,c5,c6,c7,c8,c9,c10,c11,c12,c13,hL⟩:=of14 h
 subst hL
 refine Aaq (af:=AdQ) rfl rfl ?_
 refine Aac (Aad (Aaa 2 rfl (Aab (Aac (Aad (Aaa 1 rfl ?_))))))
 refine Aab (Aac (Aac (Aad ?_)));refine Aae (Abc rfl rfl rfl) rfl rfl rfl rfl ?_;refine Aaa 2 rfl ?_
 refine Aab ?_
 refine Aaj (AaJ (σ:=Nat) (fun i=>5 - i) (fun i=>[(1,.ptr 0 0 0),(3,u6 (lossS x3 y4 y5 y6 y7 i)),(10,lossN),(11,.int .i64 (5:Int)),(12,.int .i64 (i:Int))])
  (fun i S=>i≤5∧S=[some ⟨14,[cl [c0,c1,c2,c3,c4,c5,c6,c7,c8,c9,c10,c11,c12,c13]]⟩]) 0 (by (repeat' (first | exact Aav | refine Aal rfl ?_))) ⟨by omega,rfl⟩ ?_)
 rintro i S ⟨hi,rfl⟩
 refine Aac (Aad (Aaa 1 rfl (Aab (Aac ?_))))
 refine Aax rfl decide_eq_true_iff (fun c=>Aas ?_) (fun c=>AaG ?_)
 ·obtain rfl | rfl | rfl | rfl | rfl:i=0∨i=1∨i=2∨i=3∨i=4:=by omega
  ·refine Aac ?_;refine Aaj ?_;refine Aac (Aad (Aaa 3 rfl (Aab (Aac (Aad ?_)))))
   refine Aaa 2 rfl ?_;refine Aaf rfl rfl (g3) rfl rfl rfl rfl rfl rfl ?_;refine Aaa 5 rfl (Aab (Aad ?_))
   refine Aaa 2 rfl ?_;refine Aaf rfl rfl (a3) rfl rfl rfl rfl rfl rfl ?_;refine Aaa 1 rfl (Aab (Aad ?_))
   refine Aae (Aar (v := .int .i64 1) rfl rfl rfl) rfl rfl rfl rfl ?_;refine Aaa 1 rfl (Aab ?_)
   exact⟨1,by omega,by (repeat' (first | exact Aav | refine Aal rfl ?_)),by omega,rfl⟩
  ·refine Aac ?_;refine Aaj ?_;refine Aac (Aad (Aaa 3 rfl (Aab (Aac (Aad ?_)))))
   refine Aaa 2 rfl ?_;refine Aaf rfl rfl (g4) rfl rfl rfl rfl rfl rfl ?_;refine Aaa 5 rfl (Aab (Aad ?_))
   refine Aaa 2 rfl ?_;refine Aaf rfl rfl (a4) rfl rfl rfl rfl rfl rfl ?_;refine Aaa 1 rfl (Aab (Aad ?_))
   refine Aae (Aar (v := .int .i64 2) rfl rfl rfl) rfl rfl rfl rfl ?_;refine Aaa 1 rfl (Aab ?_)
   exact⟨2,by omega,by (repeat' (first | exact Aav | refine Aal rfl ?_)),by omega,rfl⟩
  ·refine Aac ?_;refine Aaj ?_;refine Aac (Aad (Aaa 3 rfl (Aab (Aac (Aad ?_)))))
   refine Aaa 2 rfl ?_;refine Aaf rfl rfl (g5) rfl rfl rfl rfl rfl rfl ?_;refine Aaa 5 rfl (Aab (Aad ?_))
   refine Aaa 2 rfl ?_;refine Aaf rfl rfl (a5) rfl rfl rfl rfl rfl rfl ?_;refine Aaa 1 rfl (Aab (Aad ?_))
   refine Aae (Aar (v := .int .i64 3) rfl rfl rfl) rfl rfl rfl rfl ?_;refine Aaa 1 rfl (Aab ?_)
   exact⟨3,by omega,by (repeat' (first | exact Aav | refine Aal rfl ?_)),by omega,rfl⟩
  ·refine Aac ?_;refine Aaj ?_;refine Aac (Aad (Aaa 3 rfl (Aab (Aac (Aad ?_)))))
   refine Aaa 2 rfl ?_;refine Aaf rfl rfl (g6) rfl rfl rfl rfl rfl rfl ?_;refine Aaa 5 rfl (Aab (Aad ?_))
   refine Aaa 2 rfl ?_;refine Aaf rfl rfl (a6) rfl rfl rfl rfl rfl rfl ?_;refine Aaa 1 rfl (Aab (Aad ?_))
   refine Aae (Aar (v := .int .i64 4) rfl rfl rfl) rfl rfl rfl rfl ?_;refine Aaa 1 rfl (Aab ?_)
   exact⟨4,by omega,by (repeat' (first | exact Aav | refine Aal rfl ?_)),by omega,rfl⟩
  ·refine Aac ?_;refine Aaj ?_;refine Aac (Aad (Aaa 3 rfl (Aab (Aac (Aad ?_)))))
   refine Aaa 2 rfl ?_;refine Aaf rfl rfl (g7) rfl rfl rfl rfl rfl rfl ?_;refine Aaa 5 rfl (Aab (Aad ?_))
   refine Aaa 2 rfl ?_;refine Aaf rfl rfl (a7) rfl rfl rfl rfl rfl rfl ?_;refine Aaa 1 rfl (Aab (Aad ?_))
   refine Aae (Aar (v := .int .i64 5) rfl rfl rfl) rfl rfl rfl rfl ?_;refine Aaa 1 rfl (Aab ?_)
   exact⟨5,by omega,by (repeat' (first | exact Aav | refine Aal rfl ?_)),by omega,rfl⟩
 ·have:i=5:=by omega
  subst this
  rcases h4 with rfl | ⟨w,rfl⟩
  ·refine Aac (Aad (Aaa 1 rfl ?_));refine Aaf rfl rfl (g8) rfl rfl rfl rfl rfl rfl ?_;refine Aaa 5 rfl ?_
   refine Aab (Aac (Aad (Aaa 2 rfl ?_)));refine Aaf rfl rfl (hp) rfl rfl rfl rfl rfl rfl ?_
   refine Aaa 1 rfl (Aab ?_);exact Aay (retd rfl ⟨_,AaA rfl⟩)
  ·refine Aac (Aad (Aaa 1 rfl ?_));refine Aaf rfl rfl (g8) rfl rfl rfl rfl rfl rfl ?_;refine Aaa 5 rfl ?_
   refine Aab (Aac (Aad (Aaa 2 rfl ?_)));refine Aaf rfl rfl (hp) rfl rfl rfl rfl rfl rfl ?_
   refine Aaa 1 rfl (Aab ?_);exact Aay (retd rfl ⟨_,AaA rfl⟩)
end Go.Eng.St
namespace Go.Eng.St
open Go Go.Eng Ieee
variable [Inhabited GlobT]
attribute [local irreducible] OpR TL TD TC TS AaB
theorem write_lt {d:Datum} (h:∀ s t,d ≠ .nan s t):Format.write double d<18446744073709551616:=by
 cases d with
 | number s m i =>
   show Format.nearest double s m i<_
   rw [nearest_w];exact Azk (rnd_le m i)
 | infinity s=>rw [Bbu];exact Azk (Nat.le_refl _)
 | nan s t=>exact absurd rfl (h s t)
theorem div_w {x y w:Nat} (h:FloatKind.f64.format.div x y=some w):W64 w:=by
 obtain⟨d,hd,rfl⟩:=Option.map_eq_some_iff.1 h
 refine write_lt fun s t=>?_
 rintro rfl
 unfold Datum.quotient at hd
 split at hd<;>first | cases hd | skip
 split at hd
 ·split at hd<;>cases hd
 ·cases hd
theorem AyC (x y:Nat):AaB APs AcH [quoV x y,quoV x y] (.bool true):=by
 unfold quoV
 cases h:FloatKind.f64.format.div x y with
 | none=>exact AyD
 | some w =>
   have:=AvS w w (div_w h) (div_w h)
   rwa [show sameF w w=true from decide_eq_true rfl] at this
theorem Ath (x y:Nat):AaB APs AcH [partV x y,partV x y] (.bool true):=by
 unfold partV
 cases FloatKind.f64.format.add (FloatKind.nearest .f64 (x:Int)) (FloatKind.nearest .f64 (y:Int)) with
 | none=>exact AyD
 | some s=>exact AyC _ _
end Go.Eng.St
namespace Go.Eng.St
open Go Go.Eng
variable [Inhabited GlobT]
attribute [local irreducible] OpR TL TD TC TS AaB
theorem quoV_fl (x y:Nat):quoV x y=nv∨∃ w,quoV x y=fl w:=by
 unfold quoV
 cases FloatKind.f64.format.div x y with
 | none=>exact .inl rfl
 | some w=>exact .inr ⟨w,rfl⟩
set_option maxHeartbeats 4000000 in
theorem counts_law (L:List Nat) (h:OkL L) (s t:List UInt8) (k:Nat):AaB APs AlM [.agg (cl L),.str s,.str t,u6 k] (.bool true):=by
 have r1:=of_ok L h
 have r2:=list_ok L h
 have r3:=Bcl L h s
 have r4:=Bcl L h t
 have r5:=Afr L h s
 have r6:=is_ok L h
 have r7:=names_ok L h
 have r8:=AmL
 have r9:=equalS_ok
 have r10:=AxS s
 have r11:=share_ok L h s t
 have r12:=AyF (getV L s) (getV L t)
 have r13:=Ath (getV L s) (getV L t)
 have r14:=loss_ok L h
 have r16:=rate_ok L h s k
 have r17:=AyC (FloatKind.nearest .f64 (getV L s:Int)) (FloatKind.nearest .f64 (k:Int))
 have b3:=h.get 3
 have b4:=h.get 4
 have b5:=h.get 5
 have b6:=h.get 6
 have b7:=h.get 7
 obtain⟨c0,c1,c2,c3,c4,c5,c6,c7,c8,c9,c10,c11,c12,c13,hL⟩:=of14 h
 have e3:L.getD 3 0=c3:=by rw [hL];rfl
 have e4:L.getD 4 0=c4:=by rw [hL];rfl
 have e5:L.getD 5 0=c5:=by rw [hL];rfl
 have e6:L.getD 6 0=c6:=by rw [hL];rfl
 have e7:L.getD 7 0=c7:=by rw [hL];rfl
 have e8:L.getD 8 0=c8:=by rw [hL];rfl
 rw [e3] at b3 r14
 rw [e4] at b4 r14
 rw [e5] at b5 r14
 rw [e6] at b6 r14
 rw [e7] at b7 r14
 rw [e8] at r14
 have l3:=Amf c3 c4 b3 b4
 have d4:=Akf (y:=c4) b3
 generalize satN c3 c4=y4 at *
 have l4:=Amf y4 c5 d4 b5
 have d5:=Akf (y:=c5) d4
 generalize satN y4 c5=y5 at *
 have l5:=Amf y5 c6 d5 b6
 have d6:=Akf (y:=c6) d5
 generalize satN y5 c6=y6 at *
 have l6:=Amf y6 c7 d6 b7
 generalize satN y6 c7=y7 at *
 have r15:=Ath y7 c8
 have r18:=AyF y7 c8
 have q1:=AlZ (getV L s) (getV L t)
 have q2:=AlZ y7 c8
 have q3:=quoV_fl (FloatKind.nearest .f64 (getV L s:Int)) (FloatKind.nearest .f64 (k:Int))
 obtain⟨u,hu⟩:∃ u,u=quoV (FloatKind.nearest .f64 (getV L s:Int)) (FloatKind.nearest .f64 (k:Int)):=⟨_,rfl⟩
 generalize partV (getV L s) (getV L t)=p1 at *
 generalize partV y7 c8=p2 at *
 rw [←hu] at r16 r17 q3
 generalize getV L s=n at *
 generalize getV L t=m at *
 clear e3 e4 e5 e6 e7 e8
 subst hL
 refine Aaq (af:=AdS) rfl rfl ?_
 refine Aac (Aad (Aaa 2 rfl (Aab (Aac (Aac (Aad ?_))))))
 refine Aaa 2 rfl (Aab ?_);refine AaC (t:=false) rfl (fun h=>nomatch h) (fun _=>?_);refine Aas (Aac ?_)
 refine Aac (Aad (Aaa 4 rfl ?_));refine Aae (o_maxn rfl rfl) rfl rfl rfl rfl ?_;refine Aaa 1 rfl (Aab ?_)
 by_cases z:100<max s.length t.length
 ·rw [show decide (((max s.length t.length:Nat):Int)>100)=true from decide_eq_true (by omega)]
  refine AaC (t:=true) rfl (fun _=>?_) (fun h=>nomatch h);refine Aac (Aad (Aaa 1 rfl (Aab ?_)))
  exact Aay (retd rfl ⟨_,AaA rfl⟩)
 rw [show decide (((max s.length t.length:Nat):Int)>100)=false from decide_eq_false (by omega)]
 rcases q1 with rfl | ⟨w1,rfl⟩
 ·rcases q2 with rfl | ⟨w2,rfl⟩
  ·rcases q3 with rfl | ⟨w3,rfl⟩
   ·refine AaC (t:=false) rfl (fun h=>nomatch h) (fun _=>?_);refine Aas (Aac ?_);refine AbO [none] rfl ?_
    refine Aah 1 rfl ?_;refine Aao rfl rfl (r1) rfl rfl rfl rfl rfl ?_;refine Aah 1 rfl ?_;refine Aao rfl rfl (r2) rfl rfl rfl rfl rfl ?_
    refine Aah 3 rfl (AaD ?_);refine⟨rfl,?_⟩;refine Aac (Aad (Aaa 2 rfl ?_))
    refine Aaf rfl rfl (r3) rfl rfl rfl rfl rfl rfl ?_;refine Aaa 2 rfl ?_;refine Aaf rfl rfl (r4) rfl rfl rfl rfl rfl rfl ?_
    refine Aaa 2 rfl (Aab (Aac ?_));refine Abk ?_;refine AaE rfl ?_;refine Aah 4 rfl ?_
    refine Aao rfl rfl (l3) rfl rfl rfl rfl rfl ?_;refine Aah 2 rfl ?_;refine Aao rfl rfl (l4) rfl rfl rfl rfl rfl ?_;refine Aah 2 rfl ?_
    refine Aao rfl rfl (l5) rfl rfl rfl rfl rfl ?_;refine Aah 2 rfl (AaD ?_);refine⟨rfl,?_⟩;refine Aan ?_
    refine Aaf rfl rfl (l6) rfl rfl rfl rfl rfl rfl ?_;refine Aab ?_;refine Aan ?_;refine Aaa 1 rfl (Aab ?_);refine AcB ?_
    refine Aac (Aad (Aaa 2 rfl ?_));refine Aaf rfl rfl (r5) rfl rfl rfl rfl rfl rfl ?_;refine Aaa 5 rfl ?_
    refine Aab (Aac ?_);refine Abk ?_;refine AaE rfl ?_;refine Aah 2 rfl (AaD ?_);refine⟨rfl,?_⟩
    refine Aan ?_;refine Aaf rfl rfl (r6) rfl rfl rfl rfl rfl rfl ?_;refine Aab ?_;refine Aan ?_;refine Aaa 1 rfl (Aab ?_)
    refine Aan ?_;refine Aaa 1 rfl (Aab ?_);refine Aan ?_;refine Aaf rfl rfl (r7) rfl rfl rfl rfl rfl rfl ?_;refine Aab ?_
    refine Aan ?_;refine Aaf rfl rfl (r8) rfl rfl rfl rfl rfl rfl ?_;refine Aab ?_;refine Aan ?_
    refine Aaf rfl rfl (r9) rfl rfl rfl rfl rfl rfl ?_;refine Aab ?_;refine Aan ?_;refine Aaa 1 rfl (Aab ?_);refine Aan ?_
    refine Aaa 1 rfl (Aab ?_);refine AaE rfl ?_;refine Aah 1 rfl ?_;refine Aao rfl rfl (r8) rfl rfl rfl rfl rfl ?_
    refine Aah 1 rfl ?_;refine Aao rfl rfl (r10) rfl rfl rfl rfl rfl ?_;refine AaD ?_;refine⟨rfl,?_⟩;refine Aan ?_
    refine Aaa 1 rfl (Aab ?_);refine Aan ?_;refine Aaa 1 rfl (Aab ?_);refine Aan ?_;refine Aaa 1 rfl ?_
    refine Aab ?_;refine AaE rfl ?_
    rw [if_neg Bool.false_ne_true,beq_self_eq_true (decide (s∈nameL))]
    refine Aah 3 rfl ?_;refine Aao rfl rfl (r11) rfl rfl rfl rfl rfl ?_;refine Aah 2 rfl (AaD ?_);refine⟨rfl,?_⟩
    refine Aan ?_;refine Aaf rfl rfl (r12) rfl rfl rfl rfl rfl rfl ?_;refine Aab ?_;refine Aan ?_
    refine Aaf rfl rfl (r13) rfl rfl rfl rfl rfl rfl ?_;refine Aab ?_;refine Aan ?_;refine Aaa 1 rfl (Aab ?_);refine Aan ?_
    refine Aaa 1 rfl (Aab ?_);refine AaE rfl ?_;refine Aah 1 rfl ?_;refine Aao rfl rfl (r14) rfl rfl rfl rfl rfl ?_
    refine Aah 3 rfl (AaD ?_);refine⟨rfl,?_⟩;refine Aan ?_;refine Aaf rfl rfl (r18) rfl rfl rfl rfl rfl rfl ?_;refine Aab ?_
    refine Aan ?_;refine Aaf rfl rfl (r13) rfl rfl rfl rfl rfl rfl ?_;refine Aab ?_;refine Aan ?_;refine Aaa 1 rfl (Aab ?_)
    refine Aan ?_;refine Aaa 1 rfl (Aab ?_);refine AaE rfl ?_;refine Aah 3 rfl ?_
    refine Aao rfl rfl (r16) rfl rfl rfl rfl rfl ?_;refine Aah 4 rfl ?_
    refine Aai rfl rfl (Aar (v:=nv) rfl rfl (congrArg some hu.symm)) ?_
    refine AaD ?_;refine⟨rfl,?_⟩;refine Aan ?_;refine Aaf rfl rfl (r17) rfl rfl rfl rfl rfl rfl ?_;refine Aab ?_;refine Aan ?_
    refine Aaa 1 rfl (Aab ?_);refine Aan ?_;refine Aaa 1 rfl (Aab ?_);refine AcB ?_
    exact Aay (retd rfl ⟨_,AaA rfl⟩)
   ·refine AaC (t:=false) rfl (fun h=>nomatch h) (fun _=>?_);refine Aas (Aac ?_);refine AbO [none] rfl ?_
    refine Aah 1 rfl ?_;refine Aao rfl rfl (r1) rfl rfl rfl rfl rfl ?_;refine Aah 1 rfl ?_;refine Aao rfl rfl (r2) rfl rfl rfl rfl rfl ?_
    refine Aah 3 rfl (AaD ?_);refine⟨rfl,?_⟩;refine Aac (Aad (Aaa 2 rfl ?_))
    refine Aaf rfl rfl (r3) rfl rfl rfl rfl rfl rfl ?_;refine Aaa 2 rfl ?_;refine Aaf rfl rfl (r4) rfl rfl rfl rfl rfl rfl ?_
    refine Aaa 2 rfl (Aab (Aac ?_));refine Abk ?_;refine AaE rfl ?_;refine Aah 4 rfl ?_
    refine Aao rfl rfl (l3) rfl rfl rfl rfl rfl ?_;refine Aah 2 rfl ?_;refine Aao rfl rfl (l4) rfl rfl rfl rfl rfl ?_;refine Aah 2 rfl ?_
    refine Aao rfl rfl (l5) rfl rfl rfl rfl rfl ?_;refine Aah 2 rfl (AaD ?_);refine⟨rfl,?_⟩;refine Aan ?_
    refine Aaf rfl rfl (l6) rfl rfl rfl rfl rfl rfl ?_;refine Aab ?_;refine Aan ?_;refine Aaa 1 rfl (Aab ?_);refine AcB ?_
    refine Aac (Aad (Aaa 2 rfl ?_));refine Aaf rfl rfl (r5) rfl rfl rfl rfl rfl rfl ?_;refine Aaa 5 rfl ?_
    refine Aab (Aac ?_);refine Abk ?_;refine AaE rfl ?_;refine Aah 2 rfl (AaD ?_);refine⟨rfl,?_⟩
    refine Aan ?_;refine Aaf rfl rfl (r6) rfl rfl rfl rfl rfl rfl ?_;refine Aab ?_;refine Aan ?_;refine Aaa 1 rfl (Aab ?_)
    refine Aan ?_;refine Aaa 1 rfl (Aab ?_);refine Aan ?_;refine Aaf rfl rfl (r7) rfl rfl rfl rfl rfl rfl ?_;refine Aab ?_
    refine Aan ?_;refine Aaf rfl rfl (r8) rfl rfl rfl rfl rfl rfl ?_;refine Aab ?_;refine Aan ?_
    refine Aaf rfl rfl (r9) rfl rfl rfl rfl rfl rfl ?_;refine Aab ?_;refine Aan ?_;refine Aaa 1 rfl (Aab ?_);refine Aan ?_
    refine Aaa 1 rfl (Aab ?_);refine AaE rfl ?_;refine Aah 1 rfl ?_;refine Aao rfl rfl (r8) rfl rfl rfl rfl rfl ?_
    refine Aah 1 rfl ?_;refine Aao rfl rfl (r10) rfl rfl rfl rfl rfl ?_;refine AaD ?_;refine⟨rfl,?_⟩;refine Aan ?_
    refine Aaa 1 rfl (Aab ?_);refine Aan ?_;refine Aaa 1 rfl (Aab ?_);refine Aan ?_;refine Aaa 1 rfl ?_
    refine Aab ?_;refine AaE rfl ?_
    rw [if_neg Bool.false_ne_true,beq_self_eq_true (decide (s∈nameL))]
    refine Aah 3 rfl ?_;refine Aao rfl rfl (r11) rfl rfl rfl rfl rfl ?_;refine Aah 2 rfl (AaD ?_);refine⟨rfl,?_⟩
    refine Aan ?_;refine Aaf rfl rfl (r12) rfl rfl rfl rfl rfl rfl ?_;refine Aab ?_;refine Aan ?_
    refine Aaf rfl rfl (r13) rfl rfl rfl rfl rfl rfl ?_;refine Aab ?_;refine Aan ?_;refine Aaa 1 rfl (Aab ?_);refine Aan ?_
    refine Aaa 1 rfl (Aab ?_);refine AaE rfl ?_;refine Aah 1 rfl ?_;refine Aao rfl rfl (r14) rfl rfl rfl rfl rfl ?_
    refine Aah 3 rfl (AaD ?_);refine⟨rfl,?_⟩;refine Aan ?_;refine Aaf rfl rfl (r18) rfl rfl rfl rfl rfl rfl ?_;refine Aab ?_
    refine Aan ?_;refine Aaf rfl rfl (r13) rfl rfl rfl rfl rfl rfl ?_;refine Aab ?_;refine Aan ?_;refine Aaa 1 rfl (Aab ?_)
    refine Aan ?_;refine Aaa 1 rfl (Aab ?_);refine AaE rfl ?_;refine Aah 3 rfl ?_
    refine Aao rfl rfl (r16) rfl rfl rfl rfl rfl ?_;refine Aah 4 rfl ?_
    refine Aai rfl rfl (Aar (v:=fl w3) rfl rfl (congrArg some hu.symm)) ?_
    refine AaD ?_;refine⟨rfl,?_⟩;refine Aan ?_;refine Aaf rfl rfl (r17) rfl rfl rfl rfl rfl rfl ?_;refine Aab ?_;refine Aan ?_
    refine Aaa 1 rfl (Aab ?_);refine Aan ?_;refine Aaa 1 rfl (Aab ?_);refine AcB ?_
    exact Aay (retd rfl ⟨_,AaA rfl⟩)
  ·rcases q3 with rfl | ⟨w3,rfl⟩
   ·refine AaC (t:=false) rfl (fun h=>nomatch h) (fun _=>?_);refine Aas (Aac ?_);refine AbO [none] rfl ?_
    refine Aah 1 rfl ?_;refine Aao rfl rfl (r1) rfl rfl rfl rfl rfl ?_;refine Aah 1 rfl ?_;refine Aao rfl rfl (r2) rfl rfl rfl rfl rfl ?_
    refine Aah 3 rfl (AaD ?_);refine⟨rfl,?_⟩;refine Aac (Aad (Aaa 2 rfl ?_))
    refine Aaf rfl rfl (r3) rfl rfl rfl rfl rfl rfl ?_;refine Aaa 2 rfl ?_;refine Aaf rfl rfl (r4) rfl rfl rfl rfl rfl rfl ?_
    refine Aaa 2 rfl (Aab (Aac ?_));refine Abk ?_;refine AaE rfl ?_;refine Aah 4 rfl ?_
    refine Aao rfl rfl (l3) rfl rfl rfl rfl rfl ?_;refine Aah 2 rfl ?_;refine Aao rfl rfl (l4) rfl rfl rfl rfl rfl ?_;refine Aah 2 rfl ?_
    refine Aao rfl rfl (l5) rfl rfl rfl rfl rfl ?_;refine Aah 2 rfl (AaD ?_);refine⟨rfl,?_⟩;refine Aan ?_
    refine Aaf rfl rfl (l6) rfl rfl rfl rfl rfl rfl ?_;refine Aab ?_;refine Aan ?_;refine Aaa 1 rfl (Aab ?_);refine AcB ?_
    refine Aac (Aad (Aaa 2 rfl ?_));refine Aaf rfl rfl (r5) rfl rfl rfl rfl rfl rfl ?_;refine Aaa 5 rfl ?_
    refine Aab (Aac ?_);refine Abk ?_;refine AaE rfl ?_;refine Aah 2 rfl (AaD ?_);refine⟨rfl,?_⟩
    refine Aan ?_;refine Aaf rfl rfl (r6) rfl rfl rfl rfl rfl rfl ?_;refine Aab ?_;refine Aan ?_;refine Aaa 1 rfl (Aab ?_)
    refine Aan ?_;refine Aaa 1 rfl (Aab ?_);refine Aan ?_;refine Aaf rfl rfl (r7) rfl rfl rfl rfl rfl rfl ?_;refine Aab ?_
    refine Aan ?_;refine Aaf rfl rfl (r8) rfl rfl rfl rfl rfl rfl ?_;refine Aab ?_;refine Aan ?_
    refine Aaf rfl rfl (r9) rfl rfl rfl rfl rfl rfl ?_;refine Aab ?_;refine Aan ?_;refine Aaa 1 rfl (Aab ?_);refine Aan ?_
    refine Aaa 1 rfl (Aab ?_);refine AaE rfl ?_;refine Aah 1 rfl ?_;refine Aao rfl rfl (r8) rfl rfl rfl rfl rfl ?_
    refine Aah 1 rfl ?_;refine Aao rfl rfl (r10) rfl rfl rfl rfl rfl ?_;refine AaD ?_;refine⟨rfl,?_⟩;refine Aan ?_
    refine Aaa 1 rfl (Aab ?_);refine Aan ?_;refine Aaa 1 rfl (Aab ?_);refine Aan ?_;refine Aaa 1 rfl ?_
    refine Aab ?_;refine AaE rfl ?_
    rw [if_neg Bool.false_ne_true,beq_self_eq_true (decide (s∈nameL))]
    refine Aah 3 rfl ?_;refine Aao rfl rfl (r11) rfl rfl rfl rfl rfl ?_;refine Aah 2 rfl (AaD ?_);refine⟨rfl,?_⟩
    refine Aan ?_;refine Aaf rfl rfl (r12) rfl rfl rfl rfl rfl rfl ?_;refine Aab ?_;refine Aan ?_
    refine Aaf rfl rfl (r13) rfl rfl rfl rfl rfl rfl ?_;refine Aab ?_;refine Aan ?_;refine Aaa 1 rfl (Aab ?_);refine Aan ?_
    refine Aaa 1 rfl (Aab ?_);refine AaE rfl ?_;refine Aah 1 rfl ?_;refine Aao rfl rfl (r14) rfl rfl rfl rfl rfl ?_
    refine Aah 3 rfl (AaD ?_);refine⟨rfl,?_⟩;refine Aan ?_;refine Aaf rfl rfl (r18) rfl rfl rfl rfl rfl rfl ?_;refine Aab ?_
    refine Aan ?_;refine Aaf rfl rfl (r15) rfl rfl rfl rfl rfl rfl ?_;refine Aab ?_;refine Aan ?_;refine Aaa 1 rfl (Aab ?_)
    refine Aan ?_;refine Aaa 1 rfl (Aab ?_);refine AaE rfl ?_;refine Aah 3 rfl ?_
    refine Aao rfl rfl (r16) rfl rfl rfl rfl rfl ?_;refine Aah 4 rfl ?_
    refine Aai rfl rfl (Aar (v:=nv) rfl rfl (congrArg some hu.symm)) ?_
    refine AaD ?_;refine⟨rfl,?_⟩;refine Aan ?_;refine Aaf rfl rfl (r17) rfl rfl rfl rfl rfl rfl ?_;refine Aab ?_;refine Aan ?_
    refine Aaa 1 rfl (Aab ?_);refine Aan ?_;refine Aaa 1 rfl (Aab ?_);refine AcB ?_
    exact Aay (retd rfl ⟨_,AaA rfl⟩)
   ·refine AaC (t:=false) rfl (fun h=>nomatch h) (fun _=>?_);refine Aas (Aac ?_);refine AbO [none] rfl ?_
    refine Aah 1 rfl ?_;refine Aao rfl rfl (r1) rfl rfl rfl rfl rfl ?_;refine Aah 1 rfl ?_;refine Aao rfl rfl (r2) rfl rfl rfl rfl rfl ?_
    refine Aah 3 rfl (AaD ?_);refine⟨rfl,?_⟩;refine Aac (Aad (Aaa 2 rfl ?_))
    refine Aaf rfl rfl (r3) rfl rfl rfl rfl rfl rfl ?_;refine Aaa 2 rfl ?_;refine Aaf rfl rfl (r4) rfl rfl rfl rfl rfl rfl ?_
    refine Aaa 2 rfl (Aab (Aac ?_));refine Abk ?_;refine AaE rfl ?_;refine Aah 4 rfl ?_
    refine Aao rfl rfl (l3) rfl rfl rfl rfl rfl ?_;refine Aah 2 rfl ?_;refine Aao rfl rfl (l4) rfl rfl rfl rfl rfl ?_;refine Aah 2 rfl ?_
    refine Aao rfl rfl (l5) rfl rfl rfl rfl rfl ?_;refine Aah 2 rfl (AaD ?_);refine⟨rfl,?_⟩;refine Aan ?_
    refine Aaf rfl rfl (l6) rfl rfl rfl rfl rfl rfl ?_;refine Aab ?_;refine Aan ?_;refine Aaa 1 rfl (Aab ?_);refine AcB ?_
    refine Aac (Aad (Aaa 2 rfl ?_));refine Aaf rfl rfl (r5) rfl rfl rfl rfl rfl rfl ?_;refine Aaa 5 rfl ?_
    refine Aab (Aac ?_);refine Abk ?_;refine AaE rfl ?_;refine Aah 2 rfl (AaD ?_);refine⟨rfl,?_⟩
    refine Aan ?_;refine Aaf rfl rfl (r6) rfl rfl rfl rfl rfl rfl ?_;refine Aab ?_;refine Aan ?_;refine Aaa 1 rfl (Aab ?_)
    refine Aan ?_;refine Aaa 1 rfl (Aab ?_);refine Aan ?_;refine Aaf rfl rfl (r7) rfl rfl rfl rfl rfl rfl ?_;refine Aab ?_
    refine Aan ?_;refine Aaf rfl rfl (r8) rfl rfl rfl rfl rfl rfl ?_;refine Aab ?_;refine Aan ?_
    refine Aaf rfl rfl (r9) rfl rfl rfl rfl rfl rfl ?_;refine Aab ?_;refine Aan ?_;refine Aaa 1 rfl (Aab ?_);refine Aan ?_
    refine Aaa 1 rfl (Aab ?_);refine AaE rfl ?_;refine Aah 1 rfl ?_;refine Aao rfl rfl (r8) rfl rfl rfl rfl rfl ?_
    refine Aah 1 rfl ?_;refine Aao rfl rfl (r10) rfl rfl rfl rfl rfl ?_;refine AaD ?_;refine⟨rfl,?_⟩;refine Aan ?_
    refine Aaa 1 rfl (Aab ?_);refine Aan ?_;refine Aaa 1 rfl (Aab ?_);refine Aan ?_;refine Aaa 1 rfl ?_
    refine Aab ?_;refine AaE rfl ?_
    rw [if_neg Bool.false_ne_true,beq_self_eq_true (decide (s∈nameL))]
    refine Aah 3 rfl ?_;refine Aao rfl rfl (r11) rfl rfl rfl rfl rfl ?_;refine Aah 2 rfl (AaD ?_);refine⟨rfl,?_⟩
    refine Aan ?_;refine Aaf rfl rfl (r12) rfl rfl rfl rfl rfl rfl ?_;refine Aab ?_;refine Aan ?_
    refine Aaf rfl rfl (r13) rfl rfl rfl rfl rfl rfl ?_;refine Aab ?_;refine Aan ?_;refine Aaa 1 rfl (Aab ?_);refine Aan ?_
    refine Aaa 1 rfl (Aab ?_);refine AaE rfl ?_;refine Aah 1 rfl ?_;refine Aao rfl rfl (r14) rfl rfl rfl rfl rfl ?_
    refine Aah 3 rfl (AaD ?_);refine⟨rfl,?_⟩;refine Aan ?_;refine Aaf rfl rfl (r18) rfl rfl rfl rfl rfl rfl ?_;refine Aab ?_
    refine Aan ?_;refine Aaf rfl rfl (r15) rfl rfl rfl rfl rfl rfl ?_;refine Aab ?_;refine Aan ?_;refine Aaa 1 rfl (Aab ?_)
    refine Aan ?_;refine Aaa 1 rfl (Aab ?_);refine AaE rfl ?_;refine Aah 3 rfl ?_
    refine Aao rfl rfl (r16) rfl rfl rfl rfl rfl ?_;refine Aah 4 rfl ?_
    refine Aai rfl rfl (Aar (v:=fl w3) rfl rfl (congrArg some hu.symm)) ?_
    refine AaD ?_;refine⟨rfl,?_⟩;refine Aan ?_;refine Aaf rfl rfl (r17) rfl rfl rfl rfl rfl rfl ?_;refine Aab ?_;refine Aan ?_
    refine Aaa 1 rfl (Aab ?_);refine Aan ?_;refine Aaa 1 rfl (Aab ?_);refine AcB ?_
    exact Aay (retd rfl ⟨_,AaA rfl⟩)
 ·rcases q2 with rfl | ⟨w2,rfl⟩
  ·rcases q3 with rfl | ⟨w3,rfl⟩
   ·refine AaC (t:=false) rfl (fun h=>nomatch h) (fun _=>?_);refine Aas (Aac ?_);refine AbO [none] rfl ?_
    refine Aah 1 rfl ?_;refine Aao rfl rfl (r1) rfl rfl rfl rfl rfl ?_;refine Aah 1 rfl ?_;refine Aao rfl rfl (r2) rfl rfl rfl rfl rfl ?_
    refine Aah 3 rfl (AaD ?_);refine⟨rfl,?_⟩;refine Aac (Aad (Aaa 2 rfl ?_))
    refine Aaf rfl rfl (r3) rfl rfl rfl rfl rfl rfl ?_;refine Aaa 2 rfl ?_;refine Aaf rfl rfl (r4) rfl rfl rfl rfl rfl rfl ?_
    refine Aaa 2 rfl (Aab (Aac ?_));refine Abk ?_;refine AaE rfl ?_;refine Aah 4 rfl ?_
    refine Aao rfl rfl (l3) rfl rfl rfl rfl rfl ?_;refine Aah 2 rfl ?_;refine Aao rfl rfl (l4) rfl rfl rfl rfl rfl ?_;refine Aah 2 rfl ?_
    refine Aao rfl rfl (l5) rfl rfl rfl rfl rfl ?_;refine Aah 2 rfl (AaD ?_);refine⟨rfl,?_⟩;refine Aan ?_
    refine Aaf rfl rfl (l6) rfl rfl rfl rfl rfl rfl ?_;refine Aab ?_;refine Aan ?_;refine Aaa 1 rfl (Aab ?_);refine AcB ?_
    refine Aac (Aad (Aaa 2 rfl ?_));refine Aaf rfl rfl (r5) rfl rfl rfl rfl rfl rfl ?_;refine Aaa 5 rfl ?_
    refine Aab (Aac ?_);refine Abk ?_;refine AaE rfl ?_;refine Aah 2 rfl (AaD ?_);refine⟨rfl,?_⟩
    refine Aan ?_;refine Aaf rfl rfl (r6) rfl rfl rfl rfl rfl rfl ?_;refine Aab ?_;refine Aan ?_;refine Aaa 1 rfl (Aab ?_)
    refine Aan ?_;refine Aaa 1 rfl (Aab ?_);refine Aan ?_;refine Aaf rfl rfl (r7) rfl rfl rfl rfl rfl rfl ?_;refine Aab ?_
    refine Aan ?_;refine Aaf rfl rfl (r8) rfl rfl rfl rfl rfl rfl ?_;refine Aab ?_;refine Aan ?_
    refine Aaf rfl rfl (r9) rfl rfl rfl rfl rfl rfl ?_;refine Aab ?_;refine Aan ?_;refine Aaa 1 rfl (Aab ?_);refine Aan ?_
    refine Aaa 1 rfl (Aab ?_);refine AaE rfl ?_;refine Aah 1 rfl ?_;refine Aao rfl rfl (r8) rfl rfl rfl rfl rfl ?_
    refine Aah 1 rfl ?_;refine Aao rfl rfl (r10) rfl rfl rfl rfl rfl ?_;refine AaD ?_;refine⟨rfl,?_⟩;refine Aan ?_
    refine Aaa 1 rfl (Aab ?_);refine Aan ?_;refine Aaa 1 rfl (Aab ?_);refine Aan ?_;refine Aaa 1 rfl ?_
    refine Aab ?_;refine AaE rfl ?_
    rw [if_neg Bool.false_ne_true,beq_self_eq_true (decide (s∈nameL))]
    refine Aah 3 rfl ?_;refine Aao rfl rfl (r11) rfl rfl rfl rfl rfl ?_;refine Aah 2 rfl (AaD ?_);refine⟨rfl,?_⟩
    refine Aan ?_;refine Aaf rfl rfl (r12) rfl rfl rfl rfl rfl rfl ?_;refine Aab ?_;refine Aan ?_
    refine Aaf rfl rfl (r13) rfl rfl rfl rfl rfl rfl ?_;refine Aab ?_;refine Aan ?_;refine Aaa 1 rfl (Aab ?_);refine Aan ?_
    refine Aaa 1 rfl (Aab ?_);refine AaE rfl ?_;refine Aah 1 rfl ?_;refine Aao rfl rfl (r14) rfl rfl rfl rfl rfl ?_
    refine Aah 3 rfl (AaD ?_);refine⟨rfl,?_⟩;refine Aan ?_;refine Aaf rfl rfl (r18) rfl rfl rfl rfl rfl rfl ?_;refine Aab ?_
    refine Aan ?_;refine Aaf rfl rfl (r15) rfl rfl rfl rfl rfl rfl ?_;refine Aab ?_;refine Aan ?_;refine Aaa 1 rfl (Aab ?_)
    refine Aan ?_;refine Aaa 1 rfl (Aab ?_);refine AaE rfl ?_;refine Aah 3 rfl ?_
    refine Aao rfl rfl (r16) rfl rfl rfl rfl rfl ?_;refine Aah 4 rfl ?_
    refine Aai rfl rfl (Aar (v:=nv) rfl rfl (congrArg some hu.symm)) ?_
    refine AaD ?_;refine⟨rfl,?_⟩;refine Aan ?_;refine Aaf rfl rfl (r17) rfl rfl rfl rfl rfl rfl ?_;refine Aab ?_;refine Aan ?_
    refine Aaa 1 rfl (Aab ?_);refine Aan ?_;refine Aaa 1 rfl (Aab ?_);refine AcB ?_
    exact Aay (retd rfl ⟨_,AaA rfl⟩)
   ·refine AaC (t:=false) rfl (fun h=>nomatch h) (fun _=>?_);refine Aas (Aac ?_);refine AbO [none] rfl ?_
    refine Aah 1 rfl ?_;refine Aao rfl rfl (r1) rfl rfl rfl rfl rfl ?_;refine Aah 1 rfl ?_;refine Aao rfl rfl (r2) rfl rfl rfl rfl rfl ?_
    refine Aah 3 rfl (AaD ?_);refine⟨rfl,?_⟩;refine Aac (Aad (Aaa 2 rfl ?_))
    refine Aaf rfl rfl (r3) rfl rfl rfl rfl rfl rfl ?_;refine Aaa 2 rfl ?_;refine Aaf rfl rfl (r4) rfl rfl rfl rfl rfl rfl ?_
    refine Aaa 2 rfl (Aab (Aac ?_));refine Abk ?_;refine AaE rfl ?_;refine Aah 4 rfl ?_
    refine Aao rfl rfl (l3) rfl rfl rfl rfl rfl ?_;refine Aah 2 rfl ?_;refine Aao rfl rfl (l4) rfl rfl rfl rfl rfl ?_;refine Aah 2 rfl ?_
    refine Aao rfl rfl (l5) rfl rfl rfl rfl rfl ?_;refine Aah 2 rfl (AaD ?_);refine⟨rfl,?_⟩;refine Aan ?_
    refine Aaf rfl rfl (l6) rfl rfl rfl rfl rfl rfl ?_;refine Aab ?_;refine Aan ?_;refine Aaa 1 rfl (Aab ?_);refine AcB ?_
    refine Aac (Aad (Aaa 2 rfl ?_));refine Aaf rfl rfl (r5) rfl rfl rfl rfl rfl rfl ?_;refine Aaa 5 rfl ?_
    refine Aab (Aac ?_);refine Abk ?_;refine AaE rfl ?_;refine Aah 2 rfl (AaD ?_);refine⟨rfl,?_⟩
    refine Aan ?_;refine Aaf rfl rfl (r6) rfl rfl rfl rfl rfl rfl ?_;refine Aab ?_;refine Aan ?_;refine Aaa 1 rfl (Aab ?_)
    refine Aan ?_;refine Aaa 1 rfl (Aab ?_);refine Aan ?_;refine Aaf rfl rfl (r7) rfl rfl rfl rfl rfl rfl ?_;refine Aab ?_
    refine Aan ?_;refine Aaf rfl rfl (r8) rfl rfl rfl rfl rfl rfl ?_;refine Aab ?_;refine Aan ?_
    refine Aaf rfl rfl (r9) rfl rfl rfl rfl rfl rfl ?_;refine Aab ?_;refine Aan ?_;refine Aaa 1 rfl (Aab ?_);refine Aan ?_
    refine Aaa 1 rfl (Aab ?_);refine AaE rfl ?_;refine Aah 1 rfl ?_;refine Aao rfl rfl (r8) rfl rfl rfl rfl rfl ?_
    refine Aah 1 rfl ?_;refine Aao rfl rfl (r10) rfl rfl rfl rfl rfl ?_;refine AaD ?_;refine⟨rfl,?_⟩;refine Aan ?_
    refine Aaa 1 rfl (Aab ?_);refine Aan ?_;refine Aaa 1 rfl (Aab ?_);refine Aan ?_;refine Aaa 1 rfl ?_
    refine Aab ?_;refine AaE rfl ?_
    rw [if_neg Bool.false_ne_true,beq_self_eq_true (decide (s∈nameL))]
    refine Aah 3 rfl ?_;refine Aao rfl rfl (r11) rfl rfl rfl rfl rfl ?_;refine Aah 2 rfl (AaD ?_);refine⟨rfl,?_⟩
    refine Aan ?_;refine Aaf rfl rfl (r12) rfl rfl rfl rfl rfl rfl ?_;refine Aab ?_;refine Aan ?_
    refine Aaf rfl rfl (r13) rfl rfl rfl rfl rfl rfl ?_;refine Aab ?_;refine Aan ?_;refine Aaa 1 rfl (Aab ?_);refine Aan ?_
    refine Aaa 1 rfl (Aab ?_);refine AaE rfl ?_;refine Aah 1 rfl ?_;refine Aao rfl rfl (r14) rfl rfl rfl rfl rfl ?_
    refine Aah 3 rfl (AaD ?_);refine⟨rfl,?_⟩;refine Aan ?_;refine Aaf rfl rfl (r18) rfl rfl rfl rfl rfl rfl ?_;refine Aab ?_
    refine Aan ?_;refine Aaf rfl rfl (r15) rfl rfl rfl rfl rfl rfl ?_;refine Aab ?_;refine Aan ?_;refine Aaa 1 rfl (Aab ?_)
    refine Aan ?_;refine Aaa 1 rfl (Aab ?_);refine AaE rfl ?_;refine Aah 3 rfl ?_
    refine Aao rfl rfl (r16) rfl rfl rfl rfl rfl ?_;refine Aah 4 rfl ?_
    refine Aai rfl rfl (Aar (v:=fl w3) rfl rfl (congrArg some hu.symm)) ?_
    refine AaD ?_;refine⟨rfl,?_⟩;refine Aan ?_;refine Aaf rfl rfl (r17) rfl rfl rfl rfl rfl rfl ?_;refine Aab ?_;refine Aan ?_
    refine Aaa 1 rfl (Aab ?_);refine Aan ?_;refine Aaa 1 rfl (Aab ?_);refine AcB ?_
    exact Aay (retd rfl ⟨_,AaA rfl⟩)
  ·rcases q3 with rfl | ⟨w3,rfl⟩
   ·refine AaC (t:=false) rfl (fun h=>nomatch h) (fun _=>?_);refine Aas (Aac ?_);refine AbO [none] rfl ?_
    refine Aah 1 rfl ?_;refine Aao rfl rfl (r1) rfl rfl rfl rfl rfl ?_;refine Aah 1 rfl ?_;refine Aao rfl rfl (r2) rfl rfl rfl rfl rfl ?_
    refine Aah 3 rfl (AaD ?_);refine⟨rfl,?_⟩;refine Aac (Aad (Aaa 2 rfl ?_))
    refine Aaf rfl rfl (r3) rfl rfl rfl rfl rfl rfl ?_;refine Aaa 2 rfl ?_;refine Aaf rfl rfl (r4) rfl rfl rfl rfl rfl rfl ?_
    refine Aaa 2 rfl (Aab (Aac ?_));refine Abk ?_;refine AaE rfl ?_;refine Aah 4 rfl ?_
    refine Aao rfl rfl (l3) rfl rfl rfl rfl rfl ?_;refine Aah 2 rfl ?_;refine Aao rfl rfl (l4) rfl rfl rfl rfl rfl ?_;refine Aah 2 rfl ?_
    refine Aao rfl rfl (l5) rfl rfl rfl rfl rfl ?_;refine Aah 2 rfl (AaD ?_);refine⟨rfl,?_⟩;refine Aan ?_
    refine Aaf rfl rfl (l6) rfl rfl rfl rfl rfl rfl ?_;refine Aab ?_;refine Aan ?_;refine Aaa 1 rfl (Aab ?_);refine AcB ?_
    refine Aac (Aad (Aaa 2 rfl ?_));refine Aaf rfl rfl (r5) rfl rfl rfl rfl rfl rfl ?_;refine Aaa 5 rfl ?_
    refine Aab (Aac ?_);refine Abk ?_;refine AaE rfl ?_;refine Aah 2 rfl (AaD ?_);refine⟨rfl,?_⟩
    refine Aan ?_;refine Aaf rfl rfl (r6) rfl rfl rfl rfl rfl rfl ?_;refine Aab ?_;refine Aan ?_;refine Aaa 1 rfl (Aab ?_)
    refine Aan ?_;refine Aaa 1 rfl (Aab ?_);refine Aan ?_;refine Aaf rfl rfl (r7) rfl rfl rfl rfl rfl rfl ?_;refine Aab ?_
    refine Aan ?_;refine Aaf rfl rfl (r8) rfl rfl rfl rfl rfl rfl ?_;refine Aab ?_;refine Aan ?_
    refine Aaf rfl rfl (r9) rfl rfl rfl rfl rfl rfl ?_;refine Aab ?_;refine Aan ?_;refine Aaa 1 rfl (Aab ?_);refine Aan ?_
    refine Aaa 1 rfl (Aab ?_);refine AaE rfl ?_;refine Aah 1 rfl ?_;refine Aao rfl rfl (r8) rfl rfl rfl rfl rfl ?_
    refine Aah 1 rfl ?_;refine Aao rfl rfl (r10) rfl rfl rfl rfl rfl ?_;refine AaD ?_;refine⟨rfl,?_⟩;refine Aan ?_
    refine Aaa 1 rfl (Aab ?_);refine Aan ?_;refine Aaa 1 rfl (Aab ?_);refine Aan ?_;refine Aaa 1 rfl ?_
    refine Aab ?_;refine AaE rfl ?_
    rw [if_neg Bool.false_ne_true,beq_self_eq_true (decide (s∈nameL))]
    refine Aah 3 rfl ?_;refine Aao rfl rfl (r11) rfl rfl rfl rfl rfl ?_;refine Aah 2 rfl (AaD ?_);refine⟨rfl,?_⟩
    refine Aan ?_;refine Aaf rfl rfl (r12) rfl rfl rfl rfl rfl rfl ?_;refine Aab ?_;refine Aan ?_
    refine Aaf rfl rfl (r13) rfl rfl rfl rfl rfl rfl ?_;refine Aab ?_;refine Aan ?_;refine Aaa 1 rfl (Aab ?_);refine Aan ?_
    refine Aaa 1 rfl (Aab ?_);refine AaE rfl ?_;refine Aah 1 rfl ?_;refine Aao rfl rfl (r14) rfl rfl rfl rfl rfl ?_
    refine Aah 3 rfl (AaD ?_);refine⟨rfl,?_⟩;refine Aan ?_;refine Aaf rfl rfl (r18) rfl rfl rfl rfl rfl rfl ?_;refine Aab ?_
    refine Aan ?_;refine Aaf rfl rfl (r15) rfl rfl rfl rfl rfl rfl ?_;refine Aab ?_;refine Aan ?_;refine Aaa 1 rfl (Aab ?_)
    refine Aan ?_;refine Aaa 1 rfl (Aab ?_);refine AaE rfl ?_;refine Aah 3 rfl ?_
    refine Aao rfl rfl (r16) rfl rfl rfl rfl rfl ?_;refine Aah 4 rfl ?_
    refine Aai rfl rfl (Aar (v:=nv) rfl rfl (congrArg some hu.symm)) ?_
    refine AaD ?_;refine⟨rfl,?_⟩;refine Aan ?_;refine Aaf rfl rfl (r17) rfl rfl rfl rfl rfl rfl ?_;refine Aab ?_;refine Aan ?_
    refine Aaa 1 rfl (Aab ?_);refine Aan ?_;refine Aaa 1 rfl (Aab ?_);refine AcB ?_
    exact Aay (retd rfl ⟨_,AaA rfl⟩)
   ·refine AaC (t:=false) rfl (fun h=>nomatch h) (fun _=>?_);refine Aas (Aac ?_);refine AbO [none] rfl ?_
    refine Aah 1 rfl ?_;refine Aao rfl rfl (r1) rfl rfl rfl rfl rfl ?_;refine Aah 1 rfl ?_;refine Aao rfl rfl (r2) rfl rfl rfl rfl rfl ?_
    refine Aah 3 rfl (AaD ?_);refine⟨rfl,?_⟩;refine Aac (Aad (Aaa 2 rfl ?_))
    refine Aaf rfl rfl (r3) rfl rfl rfl rfl rfl rfl ?_;refine Aaa 2 rfl ?_;refine Aaf rfl rfl (r4) rfl rfl rfl rfl rfl rfl ?_
    refine Aaa 2 rfl (Aab (Aac ?_));refine Abk ?_;refine AaE rfl ?_;refine Aah 4 rfl ?_
    refine Aao rfl rfl (l3) rfl rfl rfl rfl rfl ?_;refine Aah 2 rfl ?_;refine Aao rfl rfl (l4) rfl rfl rfl rfl rfl ?_;refine Aah 2 rfl ?_
    refine Aao rfl rfl (l5) rfl rfl rfl rfl rfl ?_;refine Aah 2 rfl (AaD ?_);refine⟨rfl,?_⟩;refine Aan ?_
    refine Aaf rfl rfl (l6) rfl rfl rfl rfl rfl rfl ?_;refine Aab ?_;refine Aan ?_;refine Aaa 1 rfl (Aab ?_);refine AcB ?_
    refine Aac (Aad (Aaa 2 rfl ?_));refine Aaf rfl rfl (r5) rfl rfl rfl rfl rfl rfl ?_;refine Aaa 5 rfl ?_
    refine Aab (Aac ?_);refine Abk ?_;refine AaE rfl ?_;refine Aah 2 rfl (AaD ?_);refine⟨rfl,?_⟩
    refine Aan ?_;refine Aaf rfl rfl (r6) rfl rfl rfl rfl rfl rfl ?_;refine Aab ?_;refine Aan ?_;refine Aaa 1 rfl (Aab ?_)
    refine Aan ?_;refine Aaa 1 rfl (Aab ?_);refine Aan ?_;refine Aaf rfl rfl (r7) rfl rfl rfl rfl rfl rfl ?_;refine Aab ?_
    refine Aan ?_;refine Aaf rfl rfl (r8) rfl rfl rfl rfl rfl rfl ?_;refine Aab ?_;refine Aan ?_
    refine Aaf rfl rfl (r9) rfl rfl rfl rfl rfl rfl ?_;refine Aab ?_;refine Aan ?_;refine Aaa 1 rfl (Aab ?_);refine Aan ?_
    refine Aaa 1 rfl (Aab ?_);refine AaE rfl ?_;refine Aah 1 rfl ?_;refine Aao rfl rfl (r8) rfl rfl rfl rfl rfl ?_
    refine Aah 1 rfl ?_;refine Aao rfl rfl (r10) rfl rfl rfl rfl rfl ?_;refine AaD ?_;refine⟨rfl,?_⟩;refine Aan ?_
    refine Aaa 1 rfl (Aab ?_);refine Aan ?_;refine Aaa 1 rfl (Aab ?_);refine Aan ?_;refine Aaa 1 rfl ?_
    refine Aab ?_;refine AaE rfl ?_
    rw [if_neg Bool.false_ne_true,beq_self_eq_true (decide (s∈nameL))]
    refine Aah 3 rfl ?_;refine Aao rfl rfl (r11) rfl rfl rfl rfl rfl ?_;refine Aah 2 rfl (AaD ?_);refine⟨rfl,?_⟩
    refine Aan ?_;refine Aaf rfl rfl (r12) rfl rfl rfl rfl rfl rfl ?_;refine Aab ?_;refine Aan ?_
    refine Aaf rfl rfl (r13) rfl rfl rfl rfl rfl rfl ?_;refine Aab ?_;refine Aan ?_;refine Aaa 1 rfl (Aab ?_);refine Aan ?_
    refine Aaa 1 rfl (Aab ?_);refine AaE rfl ?_;refine Aah 1 rfl ?_;refine Aao rfl rfl (r14) rfl rfl rfl rfl rfl ?_
    refine Aah 3 rfl (AaD ?_);refine⟨rfl,?_⟩;refine Aan ?_;refine Aaf rfl rfl (r18) rfl rfl rfl rfl rfl rfl ?_;refine Aab ?_
    refine Aan ?_;refine Aaf rfl rfl (r15) rfl rfl rfl rfl rfl rfl ?_;refine Aab ?_;refine Aan ?_;refine Aaa 1 rfl (Aab ?_)
    refine Aan ?_;refine Aaa 1 rfl (Aab ?_);refine AaE rfl ?_;refine Aah 3 rfl ?_
    refine Aao rfl rfl (r16) rfl rfl rfl rfl rfl ?_;refine Aah 4 rfl ?_
    refine Aai rfl rfl (Aar (v:=fl w3) rfl rfl (congrArg some hu.symm)) ?_
    refine AaD ?_;refine⟨rfl,?_⟩;refine Aan ?_;refine Aaf rfl rfl (r17) rfl rfl rfl rfl rfl rfl ?_;refine Aab ?_;refine Aan ?_
    refine Aaa 1 rfl (Aab ?_);refine Aan ?_;refine Aaa 1 rfl (Aab ?_);refine AcB ?_
    exact Aay (retd rfl ⟨_,AaA rfl⟩)
end Go.Eng.St
namespace Go.Eng.St
open Go Go.Eng Go.RowKit Go.ChangeShapes Go.WideShapes
variable [Inhabited GlobT]
theorem open_agg_rep {H:Type} {enc:TypeId × Value→H} {P:Program} {r:Reach} {b0:Nat} {t:TypeId} {fs:Array Field} {W:World} {sp:Nat→Bool} {v:Value} {d:DataW H} {ps:List MemPlace} (dd:Nat) (ss:List Shp) (ht:P.underlying t=some (.struct fs)) (hs:AmC P dd t=some ss)
 (hval:Value.okWide P W r b0 t v) (h:DataW.Trod enc P W 0 sp true t v d ps):∃ xs,Rep [] (fun _=>False) W (.agg xs) v∧Ahc ss xs:=by
 obtain⟨cs,rfl,_⟩:=okWide_struct ht hval
 obtain⟨fuel,hf⟩:=h
 obtain⟨xs,h1,h2⟩:=AvZ dd fuel t _ _ _ hs hf
 have h1:RepV [] (fun _=>False) W xs cs.toList:=by simpa [Value.cells] using h1
 refine⟨xs,⟨cs,rfl,by simpa using h1.1.symm,AgA _ _ fun i a ha=>?_⟩,h2⟩
 have hi:i<cs.toList.length:=by
  rw [←h1.1];exact(List.getElem?_eq_some_iff.1 ha).1
 refine⟨cs.toList[i],by simp at hi ⊢,h1.2 i a _ ha (List.getElem?_eq_getElem hi)⟩
theorem nats_of:∀ (n:Nat) (xs:List AVal),Ahc (List.replicate n (.int .u64)) xs→∃ L:List Nat,xs=L.map (fun x:Nat=>AVal.int .u64 (x:Int))∧L.length=n∧∀ x∈L,x<18446744073709551616
 | 0,xs,h=>by
   simp only [List.replicate,Ahc] at h
   exact⟨[],by simpa using h,rfl,fun x hx=>by cases hx⟩
 | n+1,xs,h=>by
   simp only [List.replicate_succ,Ahc,ShpA] at h
   obtain⟨_,rest,rfl,⟨z,rfl,hz⟩,h⟩:=h
   obtain⟨L,rfl,hl,hx⟩:=nats_of n rest h
   have hz':0≤z∧z<18446744073709551616:=by
    simp [Lit.wf,IntKind.min,IntKind.max,IntKind.signed,IntKind.bits] at hz
    omega
   refine⟨z.toNat::L,?_,by simp [hl],?_⟩
   ·simp only [List.map_cons,List.cons.injEq,and_true]
    rw [Int.toNat_of_nonneg hz'.1]
   ·intro x hx'
    rcases List.mem_cons.1 hx' with rfl | h'
    ·omega
    ·exact hx x h'
end Go.Eng.St
