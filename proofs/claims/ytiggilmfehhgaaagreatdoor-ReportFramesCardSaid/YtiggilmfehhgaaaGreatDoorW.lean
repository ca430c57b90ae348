/- The law's functions are walked: what each answers; no condition. -/
import Derived.Test.YtiggilmfehhgaaaGreatDoorC1
import Derived.Test.YtiggilmfehhgaaaGreatDoorE6
import Derived.Test.YtiggilmfehhgaaaGreatDoorE4
set_option linter.unusedSectionVars false
set_option linter.unusedVariables false
set_option linter.unusedSimpArgs false
set_option linter.unnecessarySimpa false
namespace Go.Eng.Rf
abbrev Ajr:Nat:=3
abbrev Akb:Nat:=12
abbrev Aca:Nat:=13
abbrev AeM:Nat:=15
abbrev Ace:Nat:=14
abbrev Ajp:Nat:=16
abbrev Ale:Nat:=79
abbrev Aei:Nat:=35
abbrev Anw:Nat:=81
abbrev f_r11_Put:Nat:=80
abbrev AdI:Nat:=82
abbrev AdJ:Nat:=84
abbrev AhM:Nat:=128
abbrev Aic:Nat:=165
abbrev AjZ:Nat:=164
abbrev f_l32_awake:Nat:=11
abbrev Abk:Nat:=83
end Go.Eng.Rf
namespace Go.Eng.Rf
open Go Go.Eng
def AhE:Aaj := .seq (.ops [i1 16 (.faddr 2 (.t 2)),i1 17 (.load false 1 (.t 16)),i1 18 (.len true (.t 17)),i1 19 (.faddr 2 (.t 3)),i1 20 (.load false 1 (.t 19)),i1 21 (.len true (.t 20)),i1 22 (.maxI [(.t 18),(.t 21)]),i1 23 (.bin .gtr (.t 22) (k6 1000))]) (.cond (.t 23) (.seq (.ops [i1 4 (.move (.c (.bool true)))]) (.ret)) (.skip))
def AhD:Aaj := .seq (.ops [mv 49 9,mv 50 11,i1 51 (.bin .neq (.t 49) (.t 50)),mv 52 51,ig 53 (.move (.t 10)) 52 false,ig 54 (.move (.t 12)) 52 false,ig 55 (.bin .neq (.t 53) (.t 54)) 52 false,i1 56 (.pick (.t 52) (.c (.bool true)) (.t 55)),mv 57 56,ig 58 (.move (.t 13)) 57 false,ig 59 (.load true 5 (.t 5)) 57 false,ig 60 (.load true 5 (.t 7)) 57 false,ig 61 (cf Ajp [(.t 59),(.t 60)]) 57 false,ig 62 (.eqB false (.t 58) (.t 61)) 57 false,i1 63 (.pick (.t 57) (.c (.bool true)) (.t 62)),mv 4 63]) (.ret)
def AhC:Aaj := .seq (.drawS [[i1 44 (.load true 5 (.t 5)),i1 45 (cf AeM [(.t 44)]),iu 46 (.load true 5 (.t 7)) [0,1]],[i1 47 (cf AeM [(.t 46)])],[i1 48 (cf Ace [(.t 45),(.t 47)])],[mv 13 48]]) (AhD)
def AhB:Aaj := .seq (.ops [i1 40 (.load true 5 (.t 7)),i1 41 (cf Aca [(.t 40)]),mv 39 41,i1 42 (.extract (.t 39) 0),i1 43 (.extract (.t 39) 1),mv 11 42,mv 12 43]) (AhC)
def AhA:Aaj := .seq (.ops [i1 35 (.load true 5 (.t 5)),i1 36 (cf Aca [(.t 35)]),mv 34 36,i1 37 (.extract (.t 34) 0),i1 38 (.extract (.t 34) 1),mv 9 37,mv 10 38]) (AhB)
def Ahz:Aaj := .seq (.ops [i1 30 (.load true 3 (.t 3)),i1 31 (cf Akb [(.t 30)]),mv 29 31,i1 32 (.extract (.t 29) 0),i1 33 (.extract (.t 29) 1),i1 7 (.alloc (zs .i64 4++[(.str [])])),i1 8 (.alloc (zs .i64 4++[.nils])),i0 (.store 5 (.t 7) (.t 32)),i0 (.store 5 (.t 8) (.t 33))]) (AhA)
def Ahy:Aaj := .seq (.ops [i1 25 (.load true 3 (.t 2)),i1 26 (cf Akb [(.t 25)]),mv 24 26,i1 27 (.extract (.t 24) 0),i1 28 (.extract (.t 24) 1),i1 5 (.alloc (zs .i64 4++[(.str [])])),i1 6 (.alloc (zs .i64 4++[.nils])),i0 (.store 5 (.t 5) (.t 27)),i0 (.store 5 (.t 6) (.t 28))]) (Ahz)
def Ahx:Aaj := .seq (.seq (.ops [i1 14 (cf f_l32_awake []),i1 15 (.un .not (.t 14))]) (.cond (.t 15) (.seq (.ops [i1 4 (.move (.c (.bool false)))]) (.ret)) (.skip))) (.seq (AhE) (Ahy))
def AcW:AFunc:=⟨2,64,[.tmp 4],
 .seq (.ops [i1 2 (.box 3 (.t 0)),i1 3 (.box 3 (.t 1)),i1 4 (.move (.c (.bool false)))]) (Ahx)⟩
def d_l12_Both_1:Aaj := .seq (.drawS [[i1 24 (.load true 5 (.t 6)),iu 25 (.faddr 2 (.t 1)) [0],iu 26 (.load false 1 (.t 25)) [0],i1 27 (cf Aei [(.t 24),(.t 26)]),mu 28 4 (ur 4),mu 29 5 (ur 5),i1 30 (cf Anw [(.t 28),(.t 29)]),iu 31 (.faddr 2 (.t 1)) (ur 7),iu 32 (.load false 1 (.t 31)) (ur 7)],[i1 33 (cf f_r11_Put [(.t 30),(.t 32)])],[i0 (.store 5 (.t 2) (.t 27))],[i0 (.store 5 (.t 3) (.t 33))]]) (.ret)
def d_l12_Both_2:Aaj := .seq (.ops [mv 19 4,mv 20 5,i1 21 (cf Ale [(.t 19),(.t 20)]),mv 18 21,i1 22 (.extract (.t 18) 0),i1 23 (.extract (.t 18) 1),i1 6 (.alloc (zs .i64 4++[(.str [])])),i0 (.store 5 (.t 6) (.t 22)),mv 7 23]) (d_l12_Both_1)
def d_l12_Both_3:Aaj := .seq (.draw [i1 8 (.faddr 0 (.t 1)),i1 9 (.load false 1 (.t 8)),i1 10 (.bin .rem (.t 9) (.c (.int .u8 80))),i1 11 (.conv (.int .i64) (.t 10)),i1 12 (.bin .add (k6 1) (.t 11)),iu 13 (.faddr 1 (.t 1)) (ur 5),iu 14 (.load false 1 (.t 13)) (ur 5),iu 15 (.bin .rem (.t 14) (.c (.int .u8 24))) (ur 5),iu 16 (.conv (.int .i64) (.t 15)) (ur 5),iu 17 (.bin .add (k6 1) (.t 16)) (ur 5),mu 4 12 (ub 5 5),mv 5 17]) (d_l12_Both_2)
def AkC:AFunc:=⟨1,34,[.cell 2 true 5,.cell 3 true 5],
 .seq (.ops [i1 1 (.box 3 (.t 0)),i1 2 (.alloc (zs .i64 4++[(.str [])])),i1 3 (.alloc (zs .i64 4++[.nils]))]) (d_l12_Both_3)⟩
def Afk:Aaj := .seq (.draw [i1 4 (.faddr 2 (.t 1)),i1 5 (.load false 1 (.t 4)),iu 6 (.faddr 3 (.t 1)) [0,1],iu 7 (.load false 1 (.t 6)) [0,1],mu 2 5 [2,3],mv 3 7]) (.ret)
def Acb:AFunc:=⟨1,8,[.tmp 2,.tmp 3],
 .seq (.ops [i1 1 (.box 5 (.t 0)),i1 2 (.move (k6 0)),i1 3 (.move (k6 0))]) (Afk)⟩
def AlA:Aaj := .ops [mv 27 6,mv 28 8,i1 29 (.bin .add (.c (.str [124])) (.t 28)),i1 30 (.bin .add (.t 29) (.c (.str [124]))),i1 31 (.buildSlice [(.str [])] 1 1 [(0,(.t 30))]),i1 32 (.append 1 16 (.t 27) (.t 31)),mv 6 32]
def Alz:Aaj := .seq (.block 1 (.seq (.ops [i1 25 (.iaddr 1 (.t 21) (.t 23)),i1 26 (.load false 1 (.t 25)),mv 8 26]) (AlA))) (.ops [i1 33 (.bin .add (.t 23) (k6 1)),mv 23 33])
def Aly:Aaj := .seq (.ops [i1 20 (.load true 5 (.t 1)),i1 21 (cf AdJ [(.t 20)]),i1 22 (.len false (.t 21)),i1 23 (.move (k6 0))]) (.block 0 (.loop (.seq (.ops [i1 24 (.bin .lss (.t 23) (.t 22))]) (.seq (.cond (.t 24) (.skip) (.exit 0)) (Alz)))))
def Alx:Aaj := .seq (Aly) (.seq (.ops [mv 34 6,mv 35 5,i1 36 (.buildSlice [(.str [])] 1 1 [(0,(.t 35))]),i1 37 (.append 1 16 (.t 34) (.t 36)),mv 2 37]) (.ret))
def Alw:Aaj := .seq (.ops [mv 14 3,i1 15 (cf Abk [(.c (.str [45])),(.t 14)]),i1 16 (.bin .add (.c (.str [43])) (.t 15)),i1 17 (.bin .add (.t 16) (.c (.str [43]))),mv 5 17]) (.seq (.ops [mv 18 5,i1 19 (.buildSlice [(.str [])] 1 1 [(0,(.t 18))]),mv 6 19]) (Alx))
def Alv:Aaj := .seq (.ops [i1 10 (.load true 5 (.t 1)),i1 11 (cf AdI [(.t 10)]),mv 9 11,i1 12 (.extract (.t 9) 0),i1 13 (.extract (.t 9) 1),mv 3 12,mv 4 13]) (Alw)
def AeR:AFunc:=⟨1,38,[.tmp 2],
 .seq (.ops [i1 1 (.box 5 (.t 0)),i1 2 (.move (.c .nils))]) (Alv)⟩
def Adz:Aaj := .seq (.ops [mv 6 0,i1 7 (.len false (.t 6)),mv 8 1,i1 9 (.len false (.t 8)),i1 10 (.bin .neq (.t 7) (.t 9))]) (.cond (.t 10) (.seq (.ops [i1 4 (.move (.c (.bool false)))]) (.ret)) (.skip))
def Ady:Aaj := .seq (.draw [mv 16 0,mu 17 5 [0],i1 18 (.iaddr 1 (.t 16) (.t 17)),i1 19 (.load false 1 (.t 18)),mu 20 1 (ur 4),mu 21 5 (ur 5),iu 22 (.iaddr 1 (.t 20) (.t 21)) (ur 4),iu 23 (.load false 1 (.t 22)) (ur 4),i1 24 (.bin .neq (.t 19) (.t 23))]) (.cond (.t 24) (.seq (.ops [i1 4 (.move (.c (.bool false)))]) (.ret)) (.skip))
def Adx:Aaj := .seq (.cond (.t 14) (.skip) (.exit 0)) (.seq (.block 1 (.seq (.ops [mv 15 13,mv 5 15]) (Ady))) (.ops [i1 25 (.bin .add (.t 13) (k6 1)),mv 13 25]))
def Adw:Aaj := .seq (.ops [mv 11 0,i1 12 (.len false (.t 11)),i1 13 (.move (k6 0))]) (.block 0 (.loop (.seq (.ops [i1 14 (.bin .lss (.t 13) (.t 12))]) (Adx))))
def Abt:AFunc:=⟨2,26,[.tmp 4],
 .seq (.ops [i1 4 (.move (.c (.bool false)))]) (.seq (Adz) (.seq (Adw) (.seq (.ops [i1 4 (.move (.c (.bool true)))]) (.ret))))⟩
def d_screen_Same_1:Aaj := .seq (.ops [i1 5 (.load true 5 (.t 2)),i1 6 (.load true 5 (.t 3)),i1 7 (.eqAgg false [some (.int .i64),some (.int .i64),some (.int .i64),some (.int .i64),some .str] (.t 5) (.t 6)),mv 4 7]) (.ret)
def AfB:AFunc:=⟨2,8,[.tmp 4],
 .seq (.ops [i1 2 (.box 5 (.t 0)),i1 3 (.box 5 (.t 1)),i1 4 (.move (.c (.bool false)))]) (d_screen_Same_1)⟩
def d_screen_New_1:Aaj := .seq (.ops [mv 6 0,i1 7 (.bin .lss (.t 6) (k6 1)),mv 8 7,ig 9 (.move (.t 0)) 8 false,ig 10 (.bin .gtr (.t 9) (k6 80)) 8 false,i1 11 (.pick (.t 8) (.c (.bool true)) (.t 10)),mv 12 11,ig 13 (.move (.t 1)) 12 false,ig 14 (.bin .lss (.t 13) (k6 1)) 12 false,i1 15 (.pick (.t 12) (.c (.bool true)) (.t 14)),mv 16 15,ig 17 (.move (.t 1)) 16 false,ig 18 (.bin .gtr (.t 17) (k6 24)) 16 false,i1 19 (.pick (.t 16) (.c (.bool true)) (.t 18))]) (.cond (.t 19) (.seq (.ops [i1 20 (.build (zs .i64 4++[(.str [])]) []),i0 (.store 5 (.t 4) (.t 20)),i1 5 (.move (k6 7))]) (.ret)) (.skip))
def d_screen_New_2:Aaj := .seq (.ops [mv 21 0,mv 22 1,mv 23 0,mv 24 1,i1 25 (.bin .mul (.t 23) (.t 24)),i1 26 (cf Abk [(.c (.str [32])),(.t 25)]),i1 27 (.build (zs .i64 4++[(.str [])]) [((0,1),(.t 21)),((1,1),(.t 22)),((4,1),(.t 26))]),i0 (.store 5 (.t 4) (.t 27)),i1 5 (.move (k6 0))]) (.ret)
def AgT:AFunc:=⟨2,28,[.cell 4 true 5,.tmp 5],
 .seq (.ops [i1 4 (.alloc (zs .i64 4++[(.str [])])),i1 5 (.move (k6 0))]) (.seq (d_screen_New_1) (d_screen_New_2))⟩
def AgP:Aaj := .seq (.ops [i1 8 (.faddr 0 (.t 2)),i1 9 (.load false 1 (.t 8)),i1 10 (.bin .eql (.t 9) (k6 0))]) (.cond (.t 10) (.seq (.ops [i1 11 (.load true 5 (.t 2)),i0 (.store 5 (.t 4) (.t 11))]) (.ret)) (.skip))
def AgO:Aaj := .seq (.ops [i1 41 (.faddr 2 (.t 2)),i1 42 (.load false 1 (.t 41)),i1 43 (.faddr 0 (.t 2)),i1 44 (.load false 1 (.t 43)),i1 45 (.bin .lss (.t 42) (.t 44))]) (.cond (.t 45) (.exit 1) (.skip))
def AgN:Aaj := .seq (.ops [i1 37 (.faddr 2 (.t 2)),i1 38 (.load false 1 (.t 37)),i1 39 (.bin .add (.t 38) (k6 1)),i1 40 (.faddr 2 (.t 2)),i0 (.store 1 (.t 40) (.t 39))]) (AgO)
def AgM:Aaj := .seq (.ops [mv 26 5,i1 27 (.faddr 3 (.t 2)),i1 28 (.load false 1 (.t 27)),i1 29 (.faddr 0 (.t 2)),i1 30 (.load false 1 (.t 29)),i1 31 (.bin .mul (.t 28) (.t 30)),i1 32 (.faddr 2 (.t 2)),i1 33 (.load false 1 (.t 32)),i1 34 (.bin .add (.t 31) (.t 33)),mv 35 7,i1 36 (.iaddr 1 (.t 26) (.t 34)),i0 (.store 1 (.t 36) (.t 35))]) (AgN)
def AgL:Aaj := .seq (.ops [i1 53 (.faddr 2 (.t 2)),i1 54 (.load false 1 (.t 53)),i1 55 (.bin .sub (.t 54) (k6 1)),i1 56 (.maxI [(.t 55),(k6 0)]),i1 57 (.faddr 2 (.t 2)),i0 (.store 1 (.t 57) (.t 56))]) (.exit 1)
def AgK:Aaj := .seq (.ops [mv 61 5,i1 62 (.len false (.t 61)),i1 63 (cf Abk [(.c (.str [32])),(.t 62)]),i1 64 (.conv .bytes (.t 63)),mv 5 64]) (.seq (.ops [i1 65 (.faddr 2 (.t 2)),i0 (.store 1 (.t 65) (k6 0)),i1 66 (.faddr 3 (.t 2)),i0 (.store 1 (.t 66) (k6 0))]) (.exit 1))
def AgJ:Aaj := .cond (.t 58) (AgK) (.seq (.ops [mv 68 7,i1 69 (.bin .neq (.t 68) (.c (.int .u8 10))),mv 67 69]) (.cond (.t 67) (.exit 1) (.skip)))
def AgI:Aaj := .seq (.ops [mv 51 7,i1 52 (.bin .eql (.t 51) (.c (.int .u8 8))),mv 50 52]) (.cond (.t 50) (AgL) (.seq (.ops [mv 59 7,i1 60 (.bin .eql (.t 59) (.c (.int .u8 12))),mv 58 60]) (AgJ)))
def AgH:Aaj := .seq (.ops [mv 47 7,i1 48 (.bin .eql (.t 47) (.c (.int .u8 13))),mv 46 48]) (.cond (.t 46) (.seq (.ops [i1 49 (.faddr 2 (.t 2)),i0 (.store 1 (.t 49) (k6 0))]) (.exit 1)) (AgI))
def Agb:Aaj := .seq (.ops [mv 20 1,mv 21 6,i1 22 (.idxStr (.t 20) (.t 21)),mv 7 22]) (.block 2 (.seq (.ops [mv 24 7,i1 25 (cf AhM [(.t 24)]),mv 23 25]) (.cond (.t 23) (AgM) (AgH))))
def Aga:Aaj := .seq (.ops [i1 75 (.faddr 3 (.t 2)),i1 76 (.load false 1 (.t 75)),i1 77 (.faddr 1 (.t 2)),i1 78 (.load false 1 (.t 77)),i1 79 (.bin .lss (.t 76) (.t 78))]) (.cond (.t 79) (.exit 1) (.skip))
def AfZ:Aaj := .seq (.ops [i1 71 (.faddr 3 (.t 2)),i1 72 (.load false 1 (.t 71)),i1 73 (.bin .add (.t 72) (k6 1)),i1 74 (.faddr 3 (.t 2)),i0 (.store 1 (.t 74) (.t 73))]) (Aga)
def AfY:Aaj := .draw [mv 90 5,iu 91 (.faddr 3 (.t 2)) [0],iu 92 (.load false 1 (.t 91)) [0],iu 93 (.faddr 0 (.t 2)) [0,1,2],iu 94 (.load false 1 (.t 93)) [0,1,2],iu 95 (.bin .mul (.t 92) (.t 94)) [0],i1 96 (.slice 1 (.t 90) (some (.t 95)) none none),iu 97 (.faddr 0 (.t 2)) (ur 7),iu 98 (.load false 1 (.t 97)) (ur 7),iu 99 (cf Abk [(.c (.str [32])),(.t 98)]) (ur 7),i1 100 (.copy 1 (.t 96) (.t 99))]
def AfX:Aaj := .seq (.ops [mv 84 5,mv 85 5,i1 86 (.faddr 0 (.t 2)),i1 87 (.load false 1 (.t 86)),i1 88 (.slice 1 (.t 85) (some (.t 87)) none none),i1 89 (.copy 1 (.t 84) (.t 88))]) (AfY)
def AfW:Aaj := .seq (.ops [i1 80 (.faddr 3 (.t 2)),i1 81 (.load false 1 (.t 80)),i1 82 (.bin .sub (.t 81) (k6 1)),i1 83 (.faddr 3 (.t 2)),i0 (.store 1 (.t 83) (.t 82))]) (AfX)
def AfV:Aaj := .seq (Agb) (.seq (.ops [i1 70 (.faddr 2 (.t 2)),i0 (.store 1 (.t 70) (k6 0))]) (.seq (AfZ) (AfW)))
def AfU:Aaj := .seq (.cond (.t 18) (.skip) (.exit 0)) (.seq (.block 1 (.seq (.ops [mv 19 17,mv 6 19]) (AfV))) (.ops [i1 101 (.bin .add (.t 17) (k6 1)),mv 17 101]))
def AfT:Aaj := .seq (.ops [mv 15 1,i1 16 (.len true (.t 15)),i1 17 (.move (k6 0))]) (.block 0 (.loop (.seq (.ops [i1 18 (.bin .lss (.t 17) (.t 16))]) (AfU))))
def AfS:Aaj := .seq (.ops [mv 102 5,i1 103 (.conv .str (.t 102)),i1 104 (.faddr 4 (.t 2)),i0 (.store 1 (.t 104) (.t 103))]) (.seq (.ops [i1 105 (.load true 5 (.t 2)),i0 (.store 5 (.t 4) (.t 105))]) (.ret))
def AfR:Aaj := .seq (.ops [i1 12 (.faddr 4 (.t 2)),i1 13 (.load false 1 (.t 12)),i1 14 (.conv .bytes (.t 13)),mv 5 14]) (.seq (.skip) (.seq (AfT) (AfS)))
def AcE:AFunc:=⟨2,106,[.cell 4 true 5],
 .seq (.ops [i1 2 (.box 5 (.t 0)),i1 4 (.alloc (zs .i64 4++[(.str [])]))]) (.seq (AgP) (AfR))⟩
def d_r11_New_1:Aaj := .draw [i1 15 (.faddr 4 (.t 5)),i1 16 (.load false 1 (.t 15)),mu 17 0 [0,1],iu 18 (cf Aic [(.t 17)]) [0,1],iu 19 (.buildSlice [(.str [])] 1 1 [(0,(.t 18))]) [0,1],i1 20 (.append 1 16 (.t 16) (.t 19)),i1 21 (.faddr 4 (.t 5)),i0 (.store 1 (.t 21) (.t 20))]
def d_r11_New_2:Aaj := .seq (.seq (.ops [mv 10 6,mv 11 1,i1 12 (.bin .lss (.t 10) (.t 11))]) (.cond (.t 12) (.skip) (.exit 0))) (.seq (.block 1 (d_r11_New_1)) (.ops [mv 13 6,i1 14 (.bin .add (.t 13) (k6 1)),mv 6 14]))
def d_r11_New_3:Aaj := .seq (.seq (.ops [i1 6 (.move (k6 0))]) (.block 0 (.loop (d_r11_New_2)))) (.seq (.ops [i1 22 (.load true 5 (.t 5)),i0 (.store 5 (.t 4) (.t 22))]) (.ret))
def d_r11_New_4:Aaj := .seq (.ops [mv 7 0,mv 8 1,i1 9 (.build (zs .i64 4++[.nils]) [((0,1),(.t 7)),((1,1),(.t 8))]),i1 5 (.alloc (zs .i64 4++[.nils])),i0 (.store 5 (.t 5) (.t 9))]) (d_r11_New_3)
def c_r11_New:AFunc:=⟨2,23,[.cell 4 true 5],
 .seq (.ops [i1 4 (.alloc (zs .i64 4++[.nils]))]) (d_r11_New_4)⟩
def d_r11_Put_1:Aaj := .draw [mv 37 9,iu 38 (.faddr 2 (.t 2)) [0],iu 39 (.load false 1 (.t 38)) [0],i1 40 (.sliceStr (.t 37) none (some (.t 39))),mu 41 1 (ur 4),mu 42 5 (ur 5),mu 43 5 (ur 6),iu 44 (.bin .add (.t 43) (k6 1)) (ur 6),iu 45 (.sliceStr (.t 41) (some (.t 42)) (some (.t 44))) (ur 4),i1 46 (.bin .add (.t 40) (.t 45)),mu 47 9 (ur 10),iu 48 (.faddr 2 (.t 2)) (ur 11),iu 49 (.load false 1 (.t 48)) (ur 11),iu 50 (.bin .add (.t 49) (k6 1)) (ur 11),iu 51 (.sliceStr (.t 47) (some (.t 50)) none) (ur 10),i1 52 (.bin .add (.t 46) (.t 51)),mv 9 52]
def d_r11_Put_2:Aaj := .seq (.seq (.ops [mv 33 8,i1 34 (.faddr 3 (.t 2)),i1 35 (.load false 1 (.t 34)),i1 36 (.bin .eql (.t 33) (.t 35))]) (.cond (.t 36) (d_r11_Put_1) (.skip))) (.ops [mv 53 7,mv 54 9,i1 55 (.buildSlice [(.str [])] 1 1 [(0,(.t 54))]),i1 56 (.append 1 16 (.t 53) (.t 55)),mv 7 56])
def d_r11_Put_3:Aaj := .seq (.block 3 (.seq (.ops [mv 30 28,i1 31 (.iaddr 1 (.t 26) (.t 28)),i1 32 (.load false 1 (.t 31)),mv 8 30,mv 9 32]) (d_r11_Put_2))) (.ops [i1 57 (.bin .add (.t 28) (k6 1)),mv 28 57])
def d_r11_Put_4:Aaj := .seq (.ops [i1 25 (.faddr 4 (.t 2)),i1 26 (.load false 1 (.t 25)),i1 27 (.len false (.t 26)),i1 28 (.move (k6 0))]) (.block 2 (.loop (.seq (.ops [i1 29 (.bin .lss (.t 28) (.t 27))]) (.seq (.cond (.t 29) (.skip) (.exit 2)) (d_r11_Put_3)))))
def d_r11_Put_5:Aaj := .seq (.ops [i1 64 (.faddr 2 (.t 2)),i1 65 (.load false 1 (.t 64)),i1 66 (.faddr 0 (.t 2)),i1 67 (.load false 1 (.t 66)),i1 68 (.bin .eql (.t 65) (.t 67))]) (.cond (.t 68) (.ops [i1 69 (.load true 5 (.t 2)),i1 70 (cf AjZ [(.t 69)]),i0 (.store 5 (.t 2) (.t 70))]) (.skip))
def d_r11_Put_6:Aaj := .seq (.ops [i1 60 (.faddr 2 (.t 2)),i1 61 (.load false 1 (.t 60)),i1 62 (.bin .add (.t 61) (k6 1)),i1 63 (.faddr 2 (.t 2)),i0 (.store 1 (.t 63) (.t 62))]) (d_r11_Put_5)
def d_r11_Put_7:Aaj := .seq (.ops [i1 7 (.move (.c .nils))]) (.seq (d_r11_Put_4) (.seq (.ops [mv 58 7,i1 59 (.faddr 4 (.t 2)),i0 (.store 1 (.t 59) (.t 58))]) (d_r11_Put_6)))
def d_r11_Put_8:Aaj := .seq (.ops [mv 19 6,i1 20 (.bin .geq (.t 19) (.c (.int .u8 32))),mv 21 20,ig 22 (.move (.t 6)) 21 true,ig 23 (.bin .leq (.t 22) (.c (.int .u8 126))) 21 true,i1 24 (.pick (.t 21) (.t 23) (.c (.bool false)))]) (.cond (.t 24) (d_r11_Put_7) (.skip))
def d_r11_Put_9:Aaj := .seq (.ops [mv 71 6,i1 72 (.bin .eql (.t 71) (.c (.int .u8 10)))]) (.cond (.t 72) (.ops [i1 73 (.load true 5 (.t 2)),i1 74 (cf AjZ [(.t 73)]),i0 (.store 5 (.t 2) (.t 74))]) (.skip))
def d_r11_Put_10:Aaj := .seq (.ops [mv 75 6,i1 76 (.bin .eql (.t 75) (.c (.int .u8 13)))]) (.cond (.t 76) (.ops [i1 77 (.faddr 2 (.t 2)),i0 (.store 1 (.t 77) (k6 0))]) (.skip))
def d_r11_Put_11:Aaj := .ops [i1 85 (.faddr 2 (.t 2)),i1 86 (.load false 1 (.t 85)),i1 87 (.bin .sub (.t 86) (k6 1)),i1 88 (.faddr 2 (.t 2)),i0 (.store 1 (.t 88) (.t 87))]
def d_r11_Put_12:Aaj := .seq (.ops [mv 78 6,i1 79 (.bin .eql (.t 78) (.c (.int .u8 8))),mv 80 79,ig 81 (.faddr 2 (.t 2)) 80 true,ig 82 (.load false 1 (.t 81)) 80 true,ig 83 (.bin .gtr (.t 82) (k6 0)) 80 true,i1 84 (.pick (.t 80) (.t 83) (.c (.bool false)))]) (.cond (.t 84) (d_r11_Put_11) (.skip))
def d_r11_Put_13:Aaj := .ops [i1 91 (.faddr 0 (.t 2)),i1 92 (.load false 1 (.t 91)),i1 93 (.faddr 1 (.t 2)),i1 94 (.load false 1 (.t 93)),i1 95 (cf Anw [(.t 92),(.t 94)]),i0 (.store 5 (.t 2) (.t 95))]
def d_r11_Put_14:Aaj := .seq (d_r11_Put_9) (.seq (d_r11_Put_10) (.seq (d_r11_Put_12) (.seq (.ops [mv 89 6,i1 90 (.bin .eql (.t 89) (.c (.int .u8 12)))]) (.cond (.t 90) (d_r11_Put_13) (.skip)))))
def d_r11_Put_15:Aaj := .seq (.block 1 (.seq (.ops [mv 16 1,mv 17 5,i1 18 (.idxStr (.t 16) (.t 17)),mv 6 18]) (.seq (d_r11_Put_8) (d_r11_Put_14)))) (.ops [mv 14 5,i1 15 (.bin .add (.t 14) (k6 1)),mv 5 15])
def d_r11_Put_16:Aaj := .loop (.seq (.seq (.ops [mv 10 5,mv 11 1,i1 12 (.len true (.t 11)),i1 13 (.bin .lss (.t 10) (.t 12))]) (.cond (.t 13) (.skip) (.exit 0))) (d_r11_Put_15))
def c_r11_Put:AFunc:=⟨2,97,[.cell 4 true 5],
 .seq (.ops [i1 2 (.box 5 (.t 0)),i1 4 (.alloc (zs .i64 4++[.nils]))]) (.seq (.seq (.ops [i1 5 (.move (k6 0))]) (.block 0 (d_r11_Put_16))) (.seq (.ops [i1 96 (.load true 5 (.t 2)),i0 (.store 5 (.t 4) (.t 96))]) (.ret)))⟩
def AfN:Aaj := .seq (.draw [i1 4 (.faddr 0 (.t 1)),i1 5 (.load false 1 (.t 4)),iu 6 (.faddr 1 (.t 1)) [0,1],iu 7 (.load false 1 (.t 6)) [0,1],mu 2 5 [2,3],mv 3 7]) (.ret)
def Acw:AFunc:=⟨1,8,[.tmp 2,.tmp 3],
 .seq (.ops [i1 1 (.box 5 (.t 0)),i1 2 (.move (k6 0)),i1 3 (.move (k6 0))]) (AfN)⟩
def AfQ:Aaj := .ops [mv 10 3,i1 11 (.faddr 4 (.t 1)),i1 12 (.load false 1 (.t 11)),mv 13 4,i1 14 (.faddr 0 (.t 1)),i1 15 (.load false 1 (.t 14)),i1 16 (.bin .mul (.t 13) (.t 15)),mv 17 4,i1 18 (.bin .add (.t 17) (k6 1)),i1 19 (.faddr 0 (.t 1)),i1 20 (.load false 1 (.t 19)),i1 21 (.bin .mul (.t 18) (.t 20)),i1 22 (.sliceStr (.t 12) (some (.t 16)) (some (.t 21))),i1 23 (.buildSlice [(.str [])] 1 1 [(0,(.t 22))]),i1 24 (.append 1 16 (.t 10) (.t 23)),mv 3 24]
def AfP:Aaj := .seq (.cond (.t 8) (.skip) (.exit 0)) (.seq (.block 1 (.seq (.ops [mv 9 7,mv 4 9]) (AfQ))) (.ops [i1 25 (.bin .add (.t 7) (k6 1)),mv 7 25]))
def AfO:Aaj := .seq (.ops [i1 5 (.faddr 1 (.t 1)),i1 6 (.load false 1 (.t 5)),i1 7 (.move (k6 0))]) (.block 0 (.loop (.seq (.ops [i1 8 (.bin .lss (.t 7) (.t 6))]) (AfP))))
def Acx:AFunc:=⟨1,27,[.tmp 2],
 .seq (.ops [i1 1 (.box 5 (.t 0)),i1 2 (.move (.c .nils))]) (.seq (.ops [i1 3 (.move (.c .nils))]) (.seq (AfO) (.seq (.ops [mv 26 3,mv 2 26]) (.ret))))⟩
def Alu:Aaj := .seq (.ops [mv 3 0,i1 4 (.bin .geq (.t 3) (.c (.int .u8 32))),mv 5 4,ig 6 (.move (.t 0)) 5 true,ig 7 (.bin .leq (.t 6) (.c (.int .u8 126))) 5 true,i1 8 (.pick (.t 5) (.t 7) (.c (.bool false))),mv 2 8]) (.ret)
def AeQ:AFunc:=⟨1,9,[.tmp 2],
 .seq (.ops [i1 2 (.move (.c (.bool false)))]) (Alu)⟩
def d_r11_blank_1:Aaj := .seq (.seq (.ops [mv 5 4,mv 6 0,i1 7 (.bin .lss (.t 5) (.t 6))]) (.cond (.t 7) (.skip) (.exit 0))) (.seq (.block 1 (.ops [mv 10 3,i1 11 (.bin .add (.t 10) (.c (.str [32]))),mv 3 11])) (.ops [mv 8 4,i1 9 (.bin .add (.t 8) (k6 1)),mv 4 9]))
def d_r11_blank_2:Aaj := .seq (.ops [i1 3 (.move (.c (.str [])))]) (.seq (.seq (.ops [i1 4 (.move (k6 0))]) (.block 0 (.loop (d_r11_blank_1)))) (.seq (.ops [mv 12 3,mv 2 12]) (.ret)))
def Aix:AFunc:=⟨1,13,[.tmp 2],
 .seq (.ops [i1 2 (.move (.c (.str [])))]) (d_r11_blank_2)⟩
def d_r11_down_1:Aaj := .seq (.ops [i1 11 (.faddr 3 (.t 1)),i1 12 (.load false 1 (.t 11)),i1 13 (.bin .add (.t 12) (k6 1)),i1 14 (.faddr 3 (.t 1)),i0 (.store 1 (.t 14) (.t 13))]) (.seq (.ops [i1 15 (.load true 5 (.t 1)),i0 (.store 5 (.t 2) (.t 15))]) (.ret))
def d_r11_down_2:Aaj := .seq (.ops [i1 5 (.faddr 3 (.t 1)),i1 6 (.load false 1 (.t 5)),i1 7 (.bin .add (.t 6) (k6 1)),i1 8 (.faddr 1 (.t 1)),i1 9 (.load false 1 (.t 8)),i1 10 (.bin .lss (.t 7) (.t 9))]) (.cond (.t 10) (d_r11_down_1) (.skip))
def d_r11_down_3:Aaj := .seq (.ops [mv 21 3,i1 22 (.faddr 0 (.t 1)),i1 23 (.load false 1 (.t 22)),i1 24 (cf Aic [(.t 23)]),i1 25 (.buildSlice [(.str [])] 1 1 [(0,(.t 24))]),i1 26 (.append 1 16 (.t 21) (.t 25)),i1 27 (.faddr 4 (.t 1)),i0 (.store 1 (.t 27) (.t 26))]) (.seq (.ops [i1 28 (.load true 5 (.t 1)),i0 (.store 5 (.t 2) (.t 28))]) (.ret))
def d_r11_down_4:Aaj := .seq (.ops [mv 16 3,i1 17 (.faddr 4 (.t 1)),i1 18 (.load false 1 (.t 17)),i1 19 (.slice 1 (.t 18) (some (k6 1)) none none),i1 20 (.append 1 16 (.t 16) (.t 19)),mv 3 20]) (d_r11_down_3)
def Akv:AFunc:=⟨1,29,[.cell 2 true 5],
 .seq (.ops [i1 1 (.box 5 (.t 0)),i1 2 (.alloc (zs .i64 4++[.nils]))]) (.seq (.ops [i1 4 (.faddr 2 (.t 1)),i0 (.store 1 (.t 4) (k6 0))]) (.seq (d_r11_down_2) (.seq (.ops [i1 3 (.move (.c .nils))]) (d_r11_down_4))))⟩
def fnR (n:Nat):Option AFunc:=(bif Nat.blt n 79 then (bif Nat.blt n 14 then (bif Nat.blt n 12 then (bif Nat.beq n 3 then some AcW else none) else (bif Nat.blt n 13 then (bif Nat.beq n 12 then some AkC else none) else (bif Nat.beq n 13 then some Acb else none))) else (bif Nat.blt n 16 then (bif Nat.blt n 15 then (bif Nat.beq n 14 then some Abt else none) else (bif Nat.beq n 15 then some AeR else none)) else (bif Nat.blt n 35 then (bif Nat.beq n 16 then some AfB else none) else (bif Nat.beq n 35 then some AcE else none)))) else (bif Nat.blt n 84 then (bif Nat.blt n 81 then (bif Nat.blt n 80 then (bif Nat.beq n 79 then some AgT else none) else (bif Nat.beq n 80 then some c_r11_Put else none)) else (bif Nat.blt n 82 then (bif Nat.beq n 81 then some c_r11_New else none) else (bif Nat.beq n 82 then some Acw else none))) else (bif Nat.blt n 164 then (bif Nat.blt n 128 then (bif Nat.beq n 84 then some Acx else none) else (bif Nat.beq n 128 then some AeQ else none)) else (bif Nat.blt n 165 then (bif Nat.beq n 164 then some Akv else none) else (bif Nat.beq n 165 then some Aix else none)))))
def pureR (n:Nat):Option (List AVal→Option AVal):=bif Nat.beq n 11 then some (fun l=>match l with
 | []=>some (.bool true)
 | _=>none) else bif Nat.beq n 83 then some AdZ else none
def APr:AaB:={fn:=fnR,keep:=fun _=>false,split:=fun _=>false,share:=fun n=>Nat.beq n 164,prim:=fun _=>none,pure:=pureR,slim:=true}
end Go.Eng.Rf
namespace Go.Eng
open Go
variable [Inhabited GlobT]
section
variable {AP:AaB} {m:FM} {slot:Nat} {S:Store}
theorem o_copy_rows {sz b off len n:Nat} {full:Bool} {x y:AOpd} {rows ys:List (List AVal)} {vy:AVal} (hx:lo m x=some (.view b off len full)) (hy:lo m y=some vy) (hr:rowsOf sz vy = .ok ys)
 (h1:S[b]?=some (some ⟨sz,rows⟩)) (hn:min ys.length len=n) (hl:off+len≤rows.length) (hst:((ys.take n).all fun r=>r.all storable)=true) :
 OpR AP m slot S (.copy sz x y) (.int .i64 n) (S.set b (some ⟨sz,rows.take off++ys.take n++rows.drop (off+n)⟩)) ([b],[b]):=by
 subst hn
 exact opr_w fun fr hfr k=>by simp only [semX,sem,hfr.opd hx,hfr.opd hy,hr,RM.bind,RM.run,h1,hl,hst,and_self,if_true]
theorem o_copy_view {sz b off len n b2 off2 len2:Nat} {full full2:Bool} {x y:AOpd} {rows rows2 ys:List (List AVal)} (hx:lo m x=some (.view b off len full)) (hy:lo m y=some (.view b2 off2 len2 full2))
 (h2:S[b2]?=some (some ⟨sz,rows2⟩)) (hl2:off2+len2≤rows2.length) (hys:(rows2.drop off2).take len2=ys)
 (h1:S[b]?=some (some ⟨sz,rows⟩)) (hn:min ys.length len=n) (hl:off+len≤rows.length) (hst:((ys.take n).all fun r=>r.all storable)=true) :
 OpR AP m slot S (.copy sz x y) (.int .i64 n) (S.set b (some ⟨sz,rows.take off++ys.take n++rows.drop (off+n)⟩)) ([b2,b],[b]):=fun fr hfr=>by
 subst hn hys
 exact⟨⟨.int .i64 (min ((rows2.drop off2).take len2).length len:Nat),none,[(b,some ⟨sz,rows.take off++((rows2.drop off2).take len2).take (min ((rows2.drop off2).take len2).length len)++rows.drop (off+min ((rows2.drop off2).take len2).length len)⟩)]⟩,
  ⟨0,fun k _=>by simp only [semX,sem,hfr.opd hx,hfr.opd hy,rowsOf,RM.bind,RM.run,h1,h2,hl2,hl,hst,and_self,if_true]⟩,rfl,rfl,rfl⟩
end
section
variable {P:Program} {A:Nat→Prop} {κ:Kap} {S:Store} {w w':World} {N:Nat} {fr:List AVal} {a:Act} {T:Nat→Prop}
end
section
variable {P:Program} {c:Code}
end
end Go.Eng
namespace Go.Eng
open Go
variable [Inhabited GlobT]
def killV (v:AVal) (S:Store):Store:=match v with
 | .view b _ _ _=>S.set b none
 | _=>S
def fpV (v:AVal) (slot:Nat):FP:=match v with
 | .view b _ _ _=>([b],[b,slot])
 | _=>([],[slot])
theorem o_accD {AP:AaB} {m:FM} {slot:Nat} {S:Store} {k sz bytes:Nat} {x y:AOpd} {v vy:AVal} {rows new:List (List AVal)} (hx:lo m x=some v) (hy:lo m y=some vy) (hacc:Acc k sz S v rows) (hr:rowsOf sz vy = .ok new) (hne:new≠[])
 (hst:(new.all fun r=>r.all storable)=true) (hb:(rows.length+new.length)*bytes≤17592186044416) :
 OpR AP m slot S (.append sz bytes x y) (.view slot 0 (rows.length+new.length) false) ((killV v S).set slot (some ⟨sz,rows++new⟩)) (fpV v slot):=by
 rcases hacc with⟨rfl,rfl⟩ | ⟨h1,b,h2,rfl,h4⟩
 ·have:=AcR (AP:=AP) (slot:=slot) (S:=S) (bytes:=bytes) hx hy hr hne (by simpa using hb)
  rw [List.length_nil,Nat.zero_add,List.nil_append]
  exact this
 ·exact AdN hx hy hr hne h4 rfl hb hst
def SepA (v w:AVal):Prop:=∀ b o l f,v = .view b o l f→∀ o' l' f',w ≠ .view b o' l' f'
theorem kill_get {k sz:Nat} {S T:Store} {v:AVal} {rows:List (List AVal)} (h:Acc k sz S v rows) {j:Nat} (hj:j<k):(killV v T)[j]?=T[j]?:=by
 rcases h with⟨rfl,_⟩ | ⟨h1,b,h2,rfl,h4⟩
 ·rfl
 ·show (T.set b none)[j]?=_
  rw [Aag,if_neg (by omega)]
theorem kill_len (v:AVal) (S:Store):(killV v S).length=S.length:=by unfold killV;split<;>simp
theorem o_append_nilsV {AP:AaB} {m:FM} {slot:Nat} {S:Store} {sz bytes b off len:Nat} {full:Bool} {x y:AOpd} {rows2 new:List (List AVal)} (hx:lo m x=some .nils) (hy:lo m y=some (.view b off len full)) (h1:S[b]?=some (some ⟨sz,rows2⟩))
 (hl:off+len≤rows2.length) (hn:(rows2.drop off).take len=new) (hne:new≠[]) (hb:new.length*bytes≤17592186044416) :
 OpR AP m slot S (.append sz bytes x y) (.view slot 0 new.length false) (S.set slot (some ⟨sz,new⟩)) ([b],[slot]):=fun fr hfr=>by
 subst hn
 exact⟨⟨.view slot 0 ((rows2.drop off).take len).length false,some ⟨sz,(rows2.drop off).take len⟩,[]⟩,⟨0,fun n _=>by
  cases hc:(rows2.drop off).take len with
  | nil=>exact absurd hc hne
  | cons r rs =>
    rw [hc] at hb
    simp only [semX,sem,hfr.opd hx,hfr.opd hy,rowsOf,RM.bind,RM.run,h1,hl,hc,and_self,if_true,appendTo,hb]⟩,rfl,rfl,rfl⟩
theorem o_append_noneV {AP:AaB} {m:FM} {slot:Nat} {S:Store} {sz bytes b off len:Nat} {full:Bool} {x y:AOpd} {rows2:List (List AVal)} (hx:lo m x=some .nils) (hy:lo m y=some (.view b off len full)) (h1:S[b]?=some (some ⟨sz,rows2⟩))
 (hl:off+len≤rows2.length) (hn:(rows2.drop off).take len=[]) :
 OpR AP m slot S (.append sz bytes x y) .nils S ([b],[]):=opr_r fun fr hfr n=>by
 simp only [semX,sem,hfr.opd hx,hfr.opd hy,rowsOf,RM.bind,RM.run,h1,hl,hn,and_self,if_true,appendTo]
theorem tl_accP {AP:AaB} {N:Nat} {d:Option Nat} {k sz bytes:Nat} {x y:AOpd} {v vy:AVal} {rows new:List (List AVal)} {g:Option (Nat × Bool)} {un:List Nat} {l:List Aaq} {m:FM} {S:Store} {K:FM→Store→Prop}
 (hx:lo m x=some v) (hy:lo m y=some vy) (hacc:Acc k sz S v rows) (hr:rowsOf sz vy = .ok new) (hne:new≠[]) (hst:(new.all fun r=>r.all storable)=true) (hb:(rows.length+new.length)*bytes≤17592186044416) (hkS:k≤S.length)
 (hd:(d.all fun d=>d<N)=true) (hg:gd m g=some true)
 (hk:∀ v' S',Acc k sz S' v' (rows++new)→(∀ j,j<S.length→(∀ off len full,v ≠ .view j off len full)→S'[j]?=S[j]?)→(∀ j,j<S.length→∀ off len full,v' ≠ .view j off len full)→TL AP N l (putM m d v') S' K):TL AP N (⟨d,.append sz bytes x y,g,un⟩::l) m S K:=by
 rcases hacc with⟨rfl,rfl⟩ | ⟨h1,b,h2,rfl,h4⟩
 ·refine Abh (AcR hx hy hr hne (by simp at hb;omega)) rfl hd hg rfl ?_
  refine hk _ _ ?_ ?_ (fun j hj off len full e=>by cases e;omega)
  ·refine .inr ⟨by simpa using hne,S.length,hkS,by simp,?_⟩
   simp
  ·intro j hj _
   rw [AbC,List.getElem?_append_left (by omega)]
 ·have hbl:b<S.length:=(List.getElem?_eq_some_iff.1 h4).1
  refine Abh (AdN hx hy hr hne (rows0:=rows) (by rw [List.getElem?_append_left hbl];exact h4) rfl hb hst) rfl hd hg rfl ?_
  refine hk _ _ ?_ ?_ (fun j hj off len full e=>by cases e;omega)
  ·refine .inr ⟨by simp [h1],S.length,hkS,by simp,?_⟩
   rw [Aag,if_pos ⟨rfl,by simp⟩]
  ·intro j hj hv
   have hjb:j≠b:=fun h=>hv 0 rows.length false (by rw [h])
   rw [Aag,if_neg (by omega),Aag,if_neg (by omega),List.getElem?_append_left (by omega)]
def AccL (k sz:Nat) (S:Store) (v:AVal) (rows:List (List AVal)):Prop:=v = .lim rows∨Acc k sz S v rows
theorem tl_accL {AP:AaB} {N:Nat} {d:Option Nat} {k sz bytes:Nat} {x y:AOpd} {v vy:AVal} {rows new:List (List AVal)} {g:Option (Nat × Bool)} {un:List Nat} {l:List Aaq} {m:FM} {S:Store} {K:FM→Store→Prop}
 (hx:lo m x=some v) (hy:lo m y=some vy) (hacc:AccL k sz S v rows) (hr:rowsOf sz vy = .ok new) (hne:new≠[]) (hst:(new.all fun r=>r.all storable)=true) (hb:(rows.length+new.length)*bytes≤17592186044416) (hkS:k≤S.length) (h0:AiY sz rows.head?=true)
 (hd:(d.all fun d=>d<N)=true) (hg:gd m g=some true)
 (hk:∀ v' S',Acc k sz S' v' (rows++new)→(∀ j,j<k→S'[j]?=S[j]?)→TL AP N l (putM m d v') S' K):TL AP N (⟨d,.append sz bytes x y,g,un⟩::l) m S K:=by
 rcases hacc with rfl | hacc
 ·refine Abh (o_append_lim hx hy hr hne hb h0) rfl hd hg rfl ?_
  refine hk _ _ (.inr ⟨by simp [hne],S.length,hkS,by simp,by simp⟩) ?_
  intro j hj
  rw [AbC,List.getElem?_append_left (by omega)]
 ·exact tl_acc hx hy hacc hr hne hst hb hkS hd hg fun v' S' h1 _ h2=>hk v' S' h1 h2
end Go.Eng
namespace Go.Eng
open Go
section
variable [Inhabited GlobT] {AP:AaB} {N:Nat}
theorem callS_sh {f:Nat} {af:AFunc} {ags:List AVal} {S S2:Store} {ex:AbV} {fr2:List AVal} {m2:FM} {vs:List AVal} {n:Nat} (hf:AP.fn f=some af) (hn:ags.length=af.nargs) (hdf:af.dfOf=false)
 (h1:Fr fr2 m2) (h2:ex = .normal∨ex = .ret) (h3:Acv m2 S2 af.res=some vs) (h4:exec AP n (max af.nargs af.N) af.body ⟨ags,S⟩=some (ex,⟨fr2,S2⟩)):callS AP (exec AP n) f ags S=some (one vs,S2):=by
 have hfin:finish af (ex,⟨fr2,S2⟩)=some (one vs,S2):=by
  rcases h2 with rfl | rfl<;>simp only [finish,h1.resL h3]
 simp only [callS,hf,hn,if_true,h4,hfin,hdf]
theorem tl_share {d:Option Nat} {args:List AOpd} {f:Nat} {af:AFunc} {ags:List AVal} {g:Option (Nat × Bool)} {un:List Nat} {l:List Aaq} {m:FM} {S:Store} {K:FM→Store→Prop}
 (hd:(d.all fun d=>d<N)=true) (hg:gd m g=some true) (ha:los m args=some ags) (hp:AP.prim f=none) (hke:AP.keep f=false) (hsp:AP.split f=false) (hpu:AP.pure f=none) (hs:AP.share f=true)
 (hf:AP.fn f=some af) (hn:ags.length=af.nargs) (hdf:af.dfOf=false)
 (h:TC AP (max af.nargs af.N) af.body (initM 0 ags) S fun ex m2 S2=>(ex = .normal∨ex = .ret)∧∃ vs,Acv m2 S2 af.res=some vs∧TL AP N l (putM m d (one vs)) S2 K) :
 TL AP N (⟨d,.call (.c (.fn (.func f) [] [])) args,g,un⟩::l) m S K:=fun fr hfr=>by
 have hg':=hfr.gd hg
 obtain⟨ex,fr2,m2,S2,h1,⟨h2,vs,h3,hk⟩,h5⟩:=h ags (AjX ags)
 obtain⟨fr',m',S'',k1,k2,k3⟩:=hk _ (hfr.putO d (one vs))
 refine⟨fr',m',S'',k1,k2,?_⟩
 refine h5.bind k3 fun n hn' hm=>?_
 have hsh:sharesG AP ⟨fr,S⟩ ⟨d,.call (.c (.fn (.func f) [] [])) args,g,un⟩=some (some (f,ags)):=by
  rw [Ahd hg']
  simp only [AhG,fvOf,opd,hfr.opds ha,hp,hke,hsp,hpu,hs,Option.isSome_none,Bool.or_self,Bool.false_eq_true,if_false,if_true,List.nil_append,List.append_nil]
 have hcs:=callS_sh hf hn hdf h1 h2 h3 hn'
 simp only [stepL,step1,hsh,hd,if_true,hcs,hm]
theorem Agx {S:Store} {v v':AVal} {vs vs':List AVal} {k:Nat} {i j:List Nat} (h:(frz k v).run S=some (v',i)) (hr:(RM.mapL (frz k) vs).run S=some (vs',j)):(RM.mapL (frz k) (v::vs)).run S=some (v'::vs',i++(j++[])):=by
 simp only [RM.mapL]
 refine Acy _ _ _ _ _ _ _ h ?_
 exact Acy _ _ _ _ _ _ _ hr rfl
theorem frzI_closed {S:Store} {vs:List AVal} {k:Nat} (h:AaC vs=true):(RM.mapL (frz k) vs).run S=some (vs,[]):=by rw [mapL_frz _ _ h];rfl
theorem frzI_agg {S:Store} {vs vs':List AVal} {n:Nat} {i:List Nat} (hc:AaC vs=false) (h:(RM.mapL (frz n) vs).run S=some (vs',i)):(frz (n+1) (.agg vs)).run S=some (.agg vs',i++[]):=by
 simp only [frz,frzG,AVal.closed,hc,Bool.false_eq_true,if_false]
 exact Acy _ _ _ _ _ _ _ h rfl
end
end Go.Eng
namespace Go.Eng.Rf
open Go Go.Eng
variable [Inhabited GlobT]
attribute [local irreducible] OpR TL TD TC TS Aaz
abbrev n6 (n:Nat):AVal := .int .i64 (n:Int)
abbrev scrV (w h x y:Nat) (L:List UInt8):AVal := .agg [n6 w,n6 h,n6 x,n6 y,.str L]
abbrev rowsR (A:List (List UInt8)):List (List AVal):=A.map fun s=>[.str s]
@[simp] theorem AkU (A:List (List UInt8)):AaX (rowsR A)=true:=Abe (fun _=>rfl) _
def cut (w h:Nat) (L:List UInt8):List (List UInt8):=(List.range h).map fun y=>(L.drop (y*w)).take w
theorem AjC (w i:Nat) (L:List UInt8):cut w (i+1) L=cut w i L++[(L.drop (i*w)).take w]:=by
 unfold cut;rw [List.range_succ,List.map_append];rfl
theorem wh_lt {w h:Nat} (h2:w≤80) (h4:h≤24):w*h≤1920:=Nat.mul_le_mul h2 h4
theorem repeatL_byte (b:UInt8) (n:Nat):Lib.repeatL [b] n=List.replicate n b:=by
 induction n with
 | zero=>rfl
 | succ n ih=>show [b]++Lib.repeatL [b] n=_;rw [ih];rfl
theorem rep_ok (b:UInt8) (n:Nat) (h:n≤1000000):Aaz APr Abk [.str [b],n6 n] (.str (List.replicate n b)):=by
 refine Afl (g:=AdZ) rfl ?_
 show (if 0≤(n:Int)∧(n:Int)≤9223372036854775807∧[b].length*(n:Int).toNat≤140737488355328 then some (AVal.str (Lib.repeatL [b] (n:Int).toNat)) else none)=_
 rw [if_pos ⟨by omega,by omega,by simp;omega⟩,Int.toNat_natCast,repeatL_byte]
theorem shown_ok (c:UInt8):Aaz APr AhM [.int .u8 (c.toNat:Int)] (.bool (decide (32≤c.toNat∧c.toNat≤126))):=by
 refine Aav (af:=AeQ) rfl rfl ?_
 refine Aab (Aad (Aaa 1 rfl (Aac (Aab (Aad (Aaa 3 rfl ?_))))))
 by_cases h1:32≤c.toNat
 ·rw [show decide ((c.toNat:Int)≥32)=true from decide_eq_true (by omega)]
  refine Aaa 4 rfl (Aac ?_)
  rw [show decide ((c.toNat:Int)≤126)=decide (32≤c.toNat∧c.toNat≤126) from decide_eq_decide.2 (by omega)]
  exact AaD (retd rfl ⟨_,AaJ rfl⟩)
 ·rw [show decide ((c.toNat:Int)≥32)=false from decide_eq_false (by omega),show decide (32≤c.toNat∧c.toNat≤126)=false from decide_eq_false (by omega)]
  refine Aaa 4 rfl (Aac ?_);exact AaD (retd rfl ⟨_,AaJ rfl⟩)
theorem cursor_ok (w h x y:Nat) (L:List UInt8):Aaz APr Aca [scrV w h x y L] (.tuple [n6 x,n6 y]):=by
 refine Aav (af:=Acb) rfl rfl ?_
 refine Aab (Aad (Aaa 3 rfl (Aac (Aab ?_))));refine AaH rfl ?_;refine Aal 6 rfl ?_
 refine AaQ ?_;refine⟨rfl,?_⟩;exact AaD (retd rfl ⟨_,AaJ rfl⟩)
theorem size_ok (w h x y:Nat) (L:List UInt8):Aaz APr AdI [scrV w h x y L] (.tuple [n6 w,n6 h]):=by
 refine Aav (af:=Acw) rfl rfl ?_
 refine Aab (Aad (Aaa 3 rfl (Aac (Aab ?_))));refine AaH rfl ?_;refine Aal 6 rfl ?_
 refine AaQ ?_;refine⟨rfl,?_⟩;exact AaD (retd rfl ⟨_,AaJ rfl⟩)
theorem new_ok (w h:Nat) (h1:1≤w) (h2:w≤80) (h3:1≤h) (h4:h≤24):Aaz APr Ale [n6 w,n6 h] (.tuple [scrV w h 0 0 (List.replicate (w*h) 32),n6 0]):=by
 have hm:=wh_lt h2 h4
 have hr:=rep_ok 32 (w*h) (by omega)
 refine Aav (af:=AgT) rfl rfl ?_
 refine Aab (Aad (Aaa 2 rfl (Aac (Aab (Aab (Aad ?_))))))
 refine Aaa 3 rfl ?_
 rw [show decide ((w:Int)<1)=false from decide_eq_false (by omega)]
 refine Aaa 4 rfl ?_
 rw [show decide ((w:Int)>80)=false from decide_eq_false (by omega)]
 refine Aaa 4 rfl ?_
 rw [show decide ((h:Int)<1)=false from decide_eq_false (by omega)]
 refine Aaa 3 rfl (Aac ?_)
 rw [show decide ((h:Int)>24)=false from decide_eq_false (by omega)]
 refine AaI (t:=false) rfl (fun h=>nomatch h) (fun _=>?_);refine Aao (Aab (Aad (Aaa 4 rfl ?_)))
 refine Aae (Aey rfl rfl (by omega)) rfl rfl rfl rfl ?_;refine Aap rfl rfl (hr) rfl rfl rfl rfl rfl rfl ?_
 refine Aae (Adl rfl rfl) rfl rfl rfl rfl ?_;refine Aaa 2 rfl (Aac ?_);exact AaD (retd rfl ⟨_,AaJ rfl⟩)
theorem same_ok (w h x y w' h' x' y':Nat) (L L':List UInt8):Aaz APr Ajp [scrV w h x y L,scrV w' h' x' y' L'] (.bool (decide (w=w'∧h=h'∧x=x'∧y=y'∧L=L'))):=by
 refine Aav (af:=AfB) rfl rfl ?_
 refine Aab (Aad (Aaa 3 rfl (Aac (Aab (Aad (Aaa 4 rfl ?_))))))
 refine Aac ?_
 rw [if_neg Bool.false_ne_true,show (((w:Int) == (w':Int)) && (((h:Int) == (h':Int)) && (((x:Int) == (x':Int)) && (((y:Int) == (y':Int)) && (L == L' && true)))))=decide (w=w'∧h=h'∧x=x'∧y=y'∧L=L') by
  rw [Bool.eq_iff_iff];simp
  exact and_congr (by omega) (and_congr (by omega) (and_congr (by omega) (and_congr (by omega) Iff.rfl)))]
 exact AaD (retd rfl ⟨_,AaJ rfl⟩)
theorem blank_ok (n:Nat) (hn:n≤80):Aaz APr Aic [n6 n] (.str (List.replicate n 32)):=by
 refine Aav (af:=Aix) rfl rfl ?_
 refine Aab (Aad (Aaa 1 rfl (Aac (Aab (Aad (Aaa 1 rfl ?_))))))
 refine Aac (Aab (Aab (Aad (Aaa 1 rfl (Aac ?_)))))
 refine Aak (AaE (σ:=Nat) (fun i=>n - i) (fun i=>[(0,n6 n),(3,.str (List.replicate i 32)),(4,.int .i64 (i:Int))])
  (fun i S=>i≤n∧S=[]) 0 (by (repeat' (first | exact Aan | refine Aah rfl ?_))) ⟨by omega,rfl⟩ ?_)
 rintro i S ⟨hi,rfl⟩
 refine Aab (Aab (Aad (Aaa 3 rfl (Aac ?_))))
 refine Aar rfl decide_eq_true_iff (fun c=>Aao ?_) (fun c=>AaA ?_)
 ·refine Aab ?_;refine Aak ?_;refine Aad (Aaa 1 rfl ?_);refine Aae (AdD rfl rfl (by simp;omega)) rfl rfl rfl rfl ?_
  refine Aaa 1 rfl (Aac (Aad (Aaa 1 rfl ?_)))
  refine Aae (Aax (b:=1) rfl rfl (by omega)) rfl rfl rfl rfl ?_;refine Aaa 1 rfl (Aac ?_)
  exact⟨i+1,by omega,by rw [List.replicate_succ'];(repeat' (first | exact Aan | refine Aah rfl ?_)),by omega,rfl⟩
 ·have:i=n:=by omega
  subst this
  refine Aab (Aad (Aaa 2 rfl (Aac ?_)));exact AaD (retd rfl ⟨_,AaJ rfl⟩)
theorem rows_ok (w h x y:Nat) (L:List UInt8) (h2:w≤80) (h4:h≤24) (hL:L.length=w*h):Aaz APr AdJ [scrV w h x y L] (.imm (rowsR (cut w h L))):=by
 refine Aav (af:=Acx) rfl rfl ?_
 refine Aab (Aad (Aaa 2 rfl (Aac (Aab (Aad (Aaa 1 rfl ?_))))))
 refine Aac (Aab (Aab (Aad (Aaa 3 rfl (Aac ?_)))))
 refine Aak (AaE (σ:=Nat × AVal) (fun s=>h - s.1) (fun s=>[(1,.ptr 0 0 0),(2,.nils),(3,s.2),(6,n6 h),(7,n6 s.1)])
  (fun s S=>s.1≤h∧S[0]?=some (some ⟨5,[[n6 w,n6 h,n6 x,n6 y,.str L]]⟩)∧Acc 1 1 S s.2 (rowsR (cut w s.1 L))) (0,.nils) (by (repeat' (first | exact Aan | refine Aah rfl ?_))) ⟨Nat.zero_le _,rfl,AgX⟩ ?_)
 rintro⟨i,v⟩ S ⟨hi,hS,hv⟩
 dsimp only at hi hS hv ⊢
 refine Aab (Aad (Aaa 1 rfl (Aac (Aab ?_))))
 refine Aar rfl decide_eq_true_iff (fun c=>Aao ?_) (fun c=>AaA ?_)
 ·have hi':i<h:=by omega
  have e1:i*w≤1920:=Nat.le_trans (Nat.mul_le_mul (Nat.le_of_lt hi') h2) (by omega)
  have e2:(i+1)*w≤w*h:=by rw [Nat.mul_comm w h];exact Nat.mul_le_mul_right _ hi'
  have e3:(i+1)*w=i*w+w:=by rw [Nat.add_mul,Nat.one_mul]
  have e4:=wh_lt h2 h4
  refine Aab ?_;refine Aak ?_;refine Aab (Aad (Aaa 2 rfl (Aac (Aad ?_))))
  refine Aae (Abd rfl) rfl rfl rfl rfl ?_;refine Aaa 1 rfl ?_
  refine Aae (AaG rfl hS rfl (Nat.le_of_ble_eq_true rfl) rfl) rfl rfl rfl rfl ?_;refine Aaa 2 rfl ?_
  refine Aae (AaG rfl hS rfl (Nat.le_of_ble_eq_true rfl) rfl) rfl rfl rfl rfl ?_;refine Aae (Aey rfl rfl (by omega)) rfl rfl rfl rfl ?_
  refine Aaa 1 rfl ?_;refine Aae (Aax (b:=1) rfl rfl (by omega)) rfl rfl rfl rfl ?_;refine Aaa 1 rfl ?_
  refine Aae (AaG rfl hS rfl (Nat.le_of_ble_eq_true rfl) rfl) rfl rfl rfl rfl ?_;refine Aae (Aey rfl rfl (by omega)) rfl rfl rfl rfl ?_
  refine Aae (Ahk rfl (Aby rfl) (Aby rfl) (by omega) (by omega)) rfl rfl rfl rfl ?_
  refine Aae (AaU rfl rfl rfl) rfl rfl rfl rfl ?_
  rw [show List.drop (i*w) (List.take ((i+1)*w) L)=(L.drop (i*w)).take w by rw [List.drop_take];congr 1;omega]
  have hS1:=(List.getElem?_eq_some_iff.1 hS).1
  refine tl_acc rfl rfl hv rfl (by simp) rfl (by simp [cut];omega) hS1 rfl rfl fun v' S' hv' _ hk=>?_
  refine Aae (Abd rfl) rfl rfl rfl rfl ?_;refine Aac (Aad ?_);refine Aae (Aax (b:=1) rfl rfl (by omega)) rfl rfl rfl rfl ?_
  refine Aaa 1 rfl (Aac ?_)
  exact⟨(i+1,v'),by omega,by (repeat' (first | exact Aan | refine Aah rfl ?_)),by omega,by rw [hk 0 (by omega)];exact hS,by rw [AjC];simpa using hv'⟩
 ·have:i=h:=by omega
  subst this
  refine Aab (Aad ?_);refine Aae (Abd rfl) rfl rfl rfl rfl ?_;refine Aae (Abd rfl) rfl rfl rfl rfl ?_;refine Aac ?_
  exact AaD (retd rfl (hv.frz (by simp)))
theorem equal_ok (A B:List (List UInt8)) (hA:A.length≤100):Aaz APr Ace [.imm (rowsR A),.imm (rowsR B)] (.bool (decide (A=B))):=by
 refine Aav (af:=Abt) rfl rfl ?_
 refine Aab (Aad (Aaa 1 rfl (Aac (Aab (Aab (Aad ?_))))))
 refine Aaa 5 rfl (Aac ?_)
 refine Aar rfl bne_iff_ne (fun c=>?_) (fun c=>Aao ?_)
 ·rw [show decide (A=B)=false from decide_eq_false fun e=>c (by rw [e])]
  refine Aab (Aad (Aaa 1 rfl (Aac ?_)));exact AaD (retd rfl ⟨_,AaJ rfl⟩)
 have hlen:A.length=B.length:=by
  have e1:(rowsR A).length=A.length:=List.length_map _
  have e2:(rowsR B).length=B.length:=List.length_map _
  omega
 refine Aab (Aab (Aad (Aaa 3 rfl (Aac ?_))))
 refine Aak (AaE (σ:=Nat) (fun i=>A.length - i) (fun i=>[(0,.imm (rowsR A)),(1,.imm (rowsR B)),(4,.bool false),(12,.int .i64 ((rowsR A).length:Int)),(13,n6 i)])
  (fun i S=>i≤A.length∧S=[]∧A.take i=B.take i) 0 (by (repeat' (first | exact Aan | refine Aah rfl ?_))) ⟨by omega,rfl,rfl⟩ ?_)
 rintro i S ⟨hi,rfl,he⟩
 refine Aab (Aad (Aaa 1 rfl (Aac (Aab ?_))))
 have e1:(rowsR A).length=A.length:=List.length_map _
 refine Aar rfl decide_eq_true_iff (fun c=>Aao ?_) (fun c=>AaA ?_)
 ·have hA':i<A.length:=by omega
  have hB':i<B.length:=by omega
  refine Aab ?_;refine Aak ?_;refine Aab (Aad (Aaa 2 rfl (Aac (Aab ?_))))
  refine AaH rfl ?_;refine Aal 2 rfl ?_
  refine Aai rfl rfl (Ack rfl rfl (AbI (d:=[]) hA') rfl) ?_
  refine Aal 3 rfl ?_
  refine Aai rfl rfl (Ack rfl rfl (AbI (d:=[]) hB') rfl) ?_
  refine Aal 2 rfl (AaQ ?_);refine⟨rfl,?_⟩
  refine Aar rfl bne_iff_ne (fun c=>?_) (fun c=>Aao ?_)
  ·rw [show decide (A=B)=false from decide_eq_false fun e=>c (by rw [e])]
   refine Aab (Aad (Aaa 1 rfl (Aac ?_)));exact AaD (retd rfl ⟨_,AaJ rfl⟩)
  ·refine Aad ?_;refine Aae (Aax (b:=1) rfl rfl (by omega)) rfl rfl rfl rfl ?_;refine Aaa 1 rfl (Aac ?_)
   refine⟨i+1,by omega,by (repeat' (first | exact Aan | refine Aah rfl ?_)),by omega,rfl,?_⟩
   have c:=Decidable.not_not.1 c
   rw [List.getD_eq_getElem?_getD,List.getD_eq_getElem?_getD,List.getElem?_eq_getElem hA',List.getElem?_eq_getElem hB'] at c
   rw [List.take_succ_eq_append_getElem hA',List.take_succ_eq_append_getElem hB',he]
   exact congrArg (fun z=>B.take i++[z]) c
 ·have:i=A.length:=by omega
  subst this
  refine Aab (Aad (Aaa 1 rfl (Aac ?_)))
  rw [show decide (A=B)=true from decide_eq_true (by rw [List.take_length,hlen,List.take_length] at he;exact he)]
  exact AaD (retd rfl ⟨_,AaJ rfl⟩)
end Go.Eng.Rf
namespace Go.Eng.Rf
open Go Go.Eng
variable [Inhabited GlobT]
attribute [local irreducible] OpR TL TD TC TS Aaz
def down (w h y:Nat) (L:List UInt8):Nat × List UInt8:=if y+1<h then (y+1,L) else (y,L.drop w++List.replicate w 32)
def step (w h:Nat) (s:Nat × Nat × List UInt8) (c:UInt8):Nat × Nat × List UInt8 :=
 if 32≤c.toNat∧c.toNat≤126 then (if s.1+1<w then (s.1+1,s.2.1,s.2.2.set (s.2.1*w+s.1) c) else (0,down w h s.2.1 (s.2.2.set (s.2.1*w+s.1) c)))
 else if c.toNat=13 then (0,s.2.1,s.2.2) else if c.toNat=8 then (s.1 - 1,s.2.1,s.2.2) else if c.toNat=12 then (0,0,List.replicate (w*h) 32) else if c.toNat=10 then (0,down w h s.2.1 s.2.2) else s
def OkS (w h:Nat) (s:Nat × Nat × List UInt8):Prop:=s.1<w∧s.2.1<h∧s.2.2.length=w*h
theorem down_ok {w h y:Nat} {L:List UInt8} (hy:y<h) (hL:L.length=w*h):(down w h y L).1<h∧(down w h y L).2.length=w*h:=by
 have:w≤w*h:=Nat.le_mul_of_pos_right _ (by omega)
 unfold down
 split
 ·exact⟨by omega,hL⟩
 ·refine⟨hy,?_⟩
  simp
  omega
theorem step_ok {w h:Nat} {s:Nat × Nat × List UInt8} (hs:OkS w h s) (c:UInt8):OkS w h (step w h s c):=by
 obtain⟨h1,h2,h3⟩:=hs
 have hd:=fun(L:List UInt8) (hL:L.length=w*h)=>down_ok (w:=w) h2 hL
 unfold step
 split
 ·split
  ·exact⟨by omega,h2,by simpa using h3⟩
  ·exact⟨by omega,hd _ (by simpa using h3)⟩
 ·split
  ·exact⟨by show 0<w;omega,h2,h3⟩
  ·split
   ·exact⟨by show s.1 - 1<w;omega,h2,h3⟩
   ·split
    ·exact⟨by show 0<w;omega,by show 0<h;omega,by simp⟩
    ·split
     ·exact⟨by show 0<w;omega,hd _ h3⟩
     ·exact⟨h1,h2,h3⟩
abbrev bR (L:List UInt8):List (List AVal):=L.map fun b=>[.int .u8 (b.toNat:Int)]
def putP (w h:Nat) (s:Nat × Nat × List UInt8) (out:List UInt8):Nat × Nat × List UInt8:=out.foldl (step w h) s
theorem AmY {w h:Nat}:∀ (out:List UInt8) {s:Nat × Nat × List UInt8},OkS w h s→OkS w h (putP w h s out)
 | [],_,hs=>hs
 | c::out,_,hs=>AmY out (step_ok hs c)
theorem putP_succ {w h i:Nat} {s:Nat × Nat × List UInt8} {out:List UInt8} (hi:i<out.length):putP w h s (out.take (i+1))=step w h (putP w h s (out.take i)) out[i]:=by
 rw [List.take_succ_eq_append_getElem hi]
 unfold putP;rw [List.foldl_append];rfl
theorem bR_st (L:List UInt8) (n:Nat):(((bR L).take n).all fun r=>r.all storable)=true:=by
 rw [List.all_eq_true]
 intro r hr
 obtain⟨b,_,rfl⟩:=List.mem_map.1 (List.mem_of_mem_take hr)
 rfl
theorem Amn {w h y:Nat} {L:List UInt8} (hL:L.length=w*h) (hy:y+1=h) :
 (((bR L).take 0++(bR (L.drop w)).take (w*h - w)++(bR L).drop (0+(w*h - w))).take (y*w)++(bR (List.replicate w 32)).take w++((bR L).take 0++(bR (L.drop w)).take (w*h - w)++(bR L).drop (0+(w*h - w))).drop (y*w+w))=bR (L.drop w++List.replicate w 32):=by
 have e:w*h=y*w+w:=by rw [←hy,Nat.mul_add,Nat.mul_one,Nat.mul_comm]
 have e1:w*h - w=y*w:=by omega
 have l1:(L.drop w).length=y*w:=by simp;omega
 rw [e1,List.take_zero,List.nil_append,Nat.zero_add]
 have h1:(bR (L.drop w)).take (y*w)=bR (L.drop w):=List.take_of_length_le (by simp;omega)
 have h2:(bR (List.replicate w 32)).take w=bR (List.replicate w 32):=List.take_of_length_le (by simp)
 have h3:(bR L).drop (y*w)=bR (L.drop (y*w)):=List.map_drop.symm
 have h4:(bR (L.drop w)).length=y*w:=by rw [List.length_map];exact l1
 have h5:(bR (L.drop (y*w))).length=w:=by rw [List.length_map,List.length_drop];omega
 have h6:(bR (L.drop w)++bR (L.drop (y*w))).drop (y*w+w)=[]:=List.drop_eq_nil_of_le (by rw [List.length_append];omega)
 rw [h1,h2,h3,List.take_left' h4,h6,List.append_nil]
 exact List.map_append.symm
theorem AkV (w h x y:Nat) (L out:List UInt8) (hw:w≤80) (hh:h≤24) (hs:OkS w h (x,y,L)) (ho:out.length≤1000000) :
 Aaz APr Aei [scrV w h x y L,.str out] (scrV w h (putP w h (x,y,L) out).1 (putP w h (x,y,L) out).2.1 (putP w h (x,y,L) out).2.2):=by
 have hw0:0<w:=by have:=hs.1;omega
 refine Aav (af:=AcE) rfl rfl ?_
 refine Aab (Aad (Aaa 2 rfl (Aac (Aab (Aab (Aad ?_))))))
 refine Aaa 3 rfl (Aac ?_)
 rw [show ((w:Int) == 0)=false from beq_false_of_ne (by omega)]
 refine AaI (t:=false) rfl (fun h=>nomatch h) (fun _=>?_);refine Aao (Aab (Aad (Aaa 2 rfl ?_)))
 refine Abh (Ani rfl) rfl rfl rfl rfl ?_;refine Aaa 1 rfl (Aac (Aab (Aao (Aab ?_))))
 refine Aab (Aad (Aaa 3 rfl (Aac ?_)))
 rw [hs.2.2]
 refine Aak (AaE (σ:=Nat × Nat) (fun s=>out.length - s.1) (fun s=>[(1,.str out),(2,.ptr 0 0 0),(4,.ptr 1 0 0),(5,.view s.2 0 (w*h) false),(16,n6 out.length),(17,n6 s.1)])
  (fun s S=>s.1≤out.length∧2≤s.2∧(∃L0,S[0]?=some (some ⟨5,[[n6 w,n6 h,n6 (putP w h (x,y,L) (out.take s.1)).1,n6 (putP w h (x,y,L) (out.take s.1)).2.1,.str L0]]⟩)) ∧
    S[1]?=some (some ⟨5,[zs .i64 4++[.str []]]⟩)∧S[s.2]?=some (some ⟨1,bR (putP w h (x,y,L) (out.take s.1)).2.2⟩)) (0,2) (by (repeat' (first | exact Aan | refine Aah rfl ?_))) ⟨Nat.zero_le _,Nat.le_refl _,⟨_,rfl⟩,rfl,rfl⟩ ?_)
 rintro⟨i,b⟩ S ⟨hi,hb,⟨L0,h0⟩,h1,h2⟩
 dsimp only at hi hb h0 h1 h2 ⊢
 refine Aab (Aad (Aaa 1 rfl (Aac (Aab ?_))))
 refine Aar rfl decide_eq_true_iff (fun c=>Aao ?_) (fun c=>AaA ?_)
 ·have hi':i<out.length:=by omega
  have hq:=AmY (out.take i) hs
  have hn:=putP_succ (w:=w) (h:=h) (s:=(x,y,L)) hi'
  generalize putP w h (x,y,L) (out.take i)=q at *
  obtain⟨x',y',L'⟩:=q
  obtain⟨q1,q2,q3⟩:=hq
  dsimp only at q1 q2 q3 h0 h2
  have hsh:=shown_ok out[i]
  have h0l:=(List.getElem?_eq_some_iff.1 h0).1
  have h2l:=(List.getElem?_eq_some_iff.1 h2).1
  have e1:y'*w+x'<w*h:=by
   have:=Nat.mul_le_mul_right w (show y'+1≤h from q2)
   rw [Nat.add_mul,Nat.one_mul,Nat.mul_comm h w] at this
   omega
  have e0:=wh_lt hw hh
  refine Aab ?_;refine Aak ?_;refine Aab (Aad (Aaa 2 rfl (Aac (Aab (Aab ?_)))))
  refine Aad (Aaa 2 rfl ?_);refine Aae (Adt rfl rfl (by omega)) rfl rfl rfl rfl ?_;refine Aaa 1 rfl (Aac ?_)
  refine Aak ?_;refine Aab (Aad (Aaa 1 rfl ?_));refine Aap rfl rfl (hsh) rfl rfl rfl rfl rfl rfl ?_
  refine Aaa 1 rfl (Aac ?_)
  by_cases g:32≤out[i].toNat∧out[i].toNat≤126
  ·rw [decide_eq_true g] at *
   refine AaI (t:=true) rfl (fun _=>?_) (fun h=>nomatch h);refine Aab (Aad (Aaa 2 rfl ?_))
   refine Aae (AaG rfl h0 rfl (Nat.le_of_ble_eq_true rfl) rfl) rfl rfl rfl rfl ?_;refine Aaa 1 rfl ?_
   refine Aae (AaG rfl h0 rfl (Nat.le_of_ble_eq_true rfl) rfl) rfl rfl rfl rfl ?_;refine Aae (Aey rfl rfl (by omega)) rfl rfl rfl rfl ?_
   refine Aaa 1 rfl ?_;refine Aae (AaG rfl h0 rfl (Nat.le_of_ble_eq_true rfl) rfl) rfl rfl rfl rfl ?_
   refine Aae (Aax rfl rfl (by omega)) rfl rfl rfl rfl ?_;refine Aaa 1 rfl ?_
   refine Aae (AaP rfl rfl (by omega) h2 rfl) rfl rfl rfl rfl ?_;refine Aae (Afs rfl rfl h2 (by omega)) rfl rfl rfl rfl ?_
   refine Aac (Aab (Aad (Aaa 1 rfl ?_)))
   refine Aae (AaG rfl (Aay (by omega) h0) rfl (Nat.le_of_ble_eq_true rfl) rfl) rfl rfl rfl rfl ?_
   refine Aae (Aax (b:=1) rfl rfl (by omega)) rfl rfl rfl rfl ?_;refine Aaa 1 rfl ?_
   refine Aae (AaT rfl rfl (Aay (by omega) h0) rfl rfl rfl rfl (Nat.le_of_ble_eq_true rfl) rfl) rfl rfl rfl rfl ?_;refine Aac ?_
   refine Aab (Aad (Aaa 1 rfl ?_))
   refine Aae (AaG rfl (Aam (Aay (by omega) h0)) rfl (Nat.le_of_ble_eq_true rfl) rfl) rfl rfl rfl rfl ?_;refine Aaa 1 rfl ?_
   refine Aae (AaG rfl (Aam (Aay (by omega) h0)) rfl (Nat.le_of_ble_eq_true rfl) rfl) rfl rfl rfl rfl ?_;refine Aaa 1 rfl ?_
   refine Aac ?_
   refine Aar rfl decide_eq_true_iff (fun c=>?_) (fun c=>Aao ?_)
   ·refine AaA ?_;refine Aad ?_;refine Aae (Aax (b:=1) rfl rfl (by omega)) rfl rfl rfl rfl ?_;refine Aaa 1 rfl (Aac ?_)
    have hst:putP w h (x,y,L) (out.take (i+1))=(x'+1,y',L'.set (y'*w+x') out[i]):=by
     rw [hn];unfold step;rw [if_pos g,if_pos (by omega)]
    refine⟨(i+1,b),by omega,by (repeat' (first | exact Aan | refine Aah rfl ?_)),by omega,hb,⟨L0,?_⟩,?_,?_⟩
    ·rw [hst,Aag,if_pos ⟨rfl,by simp;omega⟩];rfl
    ·rw [Aag,if_neg (by omega),Aag,if_neg (by omega)];exact h1
    ·rw [hst,Aag,if_neg (by omega),Aag,if_pos ⟨rfl,h2l⟩]
   ·refine Aab (Aad (Aaa 1 rfl ?_))
    refine Aae (AaT rfl rfl (Aam (Aay (by omega) h0)) rfl rfl rfl rfl (Nat.le_of_ble_eq_true rfl) rfl) rfl rfl rfl rfl ?_
    refine Aac (Aab (Aab (Aad (Aaa 1 rfl ?_))))
    refine Aae (AaG rfl (Aam (Aam (Aay (by omega) h0))) rfl (Nat.le_of_ble_eq_true rfl) rfl) rfl rfl rfl rfl ?_
    refine Aae (Aax (b:=1) rfl rfl (by omega)) rfl rfl rfl rfl ?_;refine Aaa 1 rfl ?_
    refine Aae (AaT rfl rfl (Aam (Aam (Aay (by omega) h0))) rfl rfl rfl rfl (Nat.le_of_ble_eq_true rfl) rfl) rfl rfl rfl rfl ?_
    refine Aac (Aab (Aad (Aaa 1 rfl ?_)))
    refine Aae (AaG rfl (Aam (Aam (Aam (Aay (by omega) h0)))) rfl (Nat.le_of_ble_eq_true rfl) rfl) rfl rfl rfl rfl ?_
    refine Aaa 1 rfl ?_
    refine Aae (AaG rfl (Aam (Aam (Aam (Aay (by omega) h0)))) rfl (Nat.le_of_ble_eq_true rfl) rfl) rfl rfl rfl rfl ?_
    refine Aaa 1 rfl (Aac ?_)
    refine Aar rfl decide_eq_true_iff (fun c=>?_) (fun c=>Aao ?_)
    ·refine AaA ?_;refine Aad ?_;refine Aae (Aax (b:=1) rfl rfl (by omega)) rfl rfl rfl rfl ?_;refine Aaa 1 rfl (Aac ?_)
     have hst:putP w h (x,y,L) (out.take (i+1))=(0,y'+1,L'.set (y'*w+x') out[i]):=by
      rw [hn];unfold step;rw [if_pos g,if_neg (by omega)];unfold down;rw [if_pos (show y'+1<h by omega)]
     refine⟨(i+1,b),by omega,by (repeat' (first | exact Aan | refine Aah rfl ?_)),by omega,hb,⟨L0,?_⟩,?_,?_⟩
     ·rw [hst,Aag,if_pos ⟨rfl,by simp;omega⟩];rfl
     ·rw [Aag,if_neg (by omega),Aag,if_neg (by omega),Aag,if_neg (by omega),Aag,if_neg (by omega)];exact h1
     ·rw [hst,Aag,if_neg (by omega),Aag,if_neg (by omega),Aag,if_neg (by omega),Aag,if_pos ⟨rfl,h2l⟩]
    ·refine Aab (Aad (Aaa 1 rfl ?_))
     refine Aae (AaG rfl (Aam (Aam (Aam (Aay (by omega) h0)))) rfl (Nat.le_of_ble_eq_true rfl) rfl) rfl rfl rfl rfl ?_
     refine Aae (AbQ (b:=1) rfl rfl (by omega) (by omega)) rfl rfl rfl rfl ?_;refine Aaa 1 rfl ?_
     refine Aae (AaT rfl rfl (Aam (Aam (Aam (Aay (by omega) h0)))) rfl rfl rfl rfl (Nat.le_of_ble_eq_true rfl) rfl) rfl rfl rfl rfl ?_
     refine Aac (Aab (Aad (Aaa 3 rfl ?_)))
     refine Aae (AaG rfl (Aam (Aam (Aam (Aam (Aay (by omega) h0))))) rfl (Nat.le_of_ble_eq_true rfl) rfl) rfl rfl rfl rfl ?_
     have hst:putP w h (x,y,L) (out.take (i+1))=(0,y',(L'.set (y'*w+x') out[i]).drop w++List.replicate w 32):=by
      rw [hn];unfold step;rw [if_pos g,if_neg (by omega)];unfold down;rw [if_neg (show ¬ y'+1<h by omega)]
     generalize hT:(List.set _ 0 _:Store)=T
     have t0:T[0]?=some (some ⟨5,[[n6 w,n6 h,n6 0,n6 y',.str L0]]⟩):=by rw [←hT,Aag,if_pos ⟨rfl,by simp;omega⟩];rfl
     have t1:T[1]?=some (some ⟨5,[zs .i64 4++[.str []]]⟩):=by rw [←hT,Aag,if_neg (by omega),Aag,if_neg (by omega),Aag,if_neg (by omega),Aag,if_neg (by omega),Aag,if_neg (by omega)];exact h1
     have t2:T[b]?=some (some ⟨1,bR (L'.set (y'*w+x') out[i])⟩):=by rw [←hT,Aag,if_neg (by omega),Aag,if_neg (by omega),Aag,if_neg (by omega),Aag,if_neg (by omega),Aag,if_pos ⟨rfl,h2l⟩]
     clear hT
     have q3':(L'.set (y'*w+x') out[i]).length=w*h:=by simp;omega
     generalize L'.set (y'*w+x') out[i]=L2 at *
     refine Aae (AcI rfl t2 (by simp;omega) (Aby rfl) Aef (Nat.le_mul_of_pos_right _ (by omega)) (by simp;omega)) rfl rfl rfl rfl ?_
     have ew:w≤w*h:=Nat.le_mul_of_pos_right _ (by omega)
     refine Aae (o_copy_view rfl rfl t2 (by simp;omega) (ys:=bR (L2.drop w)) (by rw [←List.map_drop,List.take_of_length_le (by simp;omega)]) t2 (n:=w*h - w) (by simp;omega) (by simp;omega) (bR_st _ _)) rfl rfl rfl rfl ?_
     have tl:=(List.getElem?_eq_some_iff.1 t2).1
     have hrp:=rep_ok 32 w (by omega)
     have ey:y'+1=h:=by omega
     have hsc:=Amn q3' ey
     generalize hR:(bR L2).take 0++(bR (L2.drop w)).take (w*h - w)++(bR L2).drop (0+(w*h - w))=R at hsc ⊢
     have lR:R.length=w*h:=by rw [←hR];simp;omega
     have t0':(T.set b (some ⟨1,R⟩))[0]?=some (some ⟨5,[[n6 w,n6 h,n6 0,n6 y',.str L0]]⟩):=by rw [Aag,if_neg (by omega)];exact t0
     have t1':(T.set b (some ⟨1,R⟩))[1]?=some (some ⟨5,[zs .i64 4++[.str []]]⟩):=by rw [Aag,if_neg (by omega)];exact t1
     have t2':(T.set b (some ⟨1,R⟩))[b]?=some (some ⟨1,R⟩):=by rw [Aag,if_pos ⟨rfl,tl⟩]
     generalize T.set b (some ⟨1,R⟩)=T' at *
     have ey2:w*h=y'*w+w:=by rw [←ey,Nat.mul_add,Nat.mul_one,Nat.mul_comm]
     refine Aac ?_;refine AaH rfl ?_;refine Aal 2 rfl ?_;refine Aai rfl rfl (AaG rfl t0' rfl (Nat.le_of_ble_eq_true rfl) rfl) ?_
     refine Aal 1 rfl ?_;refine Aai rfl rfl (AaG rfl t0' rfl (Nat.le_of_ble_eq_true rfl) rfl) ?_
     refine Aai rfl rfl (Aey rfl rfl (by omega)) ?_
     refine Aai rfl rfl (AcI rfl t2' (by omega) (Aby rfl) Aef (by omega) (by omega)) ?_
     refine Aal 1 rfl ?_;refine Aai rfl rfl (AaG rfl t0' rfl (Nat.le_of_ble_eq_true rfl) rfl) ?_
     refine AaS rfl rfl (hrp) rfl rfl rfl rfl rfl ?_
     refine Aai rfl rfl (o_copy_rows (ys:=bR (List.replicate w 32)) (n:=w) rfl rfl (by simp only [rowsOf,if_true,Aco]) t2' (by simp;omega) (by omega) (bR_st _ _)) ?_
     refine AaQ ?_;refine⟨rfl,?_⟩;refine Aad ?_;refine Aae (Aax (b:=1) rfl rfl (by omega)) rfl rfl rfl rfl ?_;refine Aaa 1 rfl ?_
     refine Aac ?_
     have tl':=(List.getElem?_eq_some_iff.1 t2').1
     refine⟨(i+1,b),by omega,by (repeat' (first | exact Aan | refine Aah rfl ?_)),by omega,hb,⟨L0,?_⟩,?_,?_⟩
     ·rw [hst,Aag,if_neg (by omega)];exact t0'
     ·rw [Aag,if_neg (by omega)];exact t1'
     ·rw [hst,Aag,if_pos ⟨rfl,tl'⟩,hsc]
  ·rw [decide_eq_false g] at *
   have hlt:=out[i].toNat_lt
   refine AaI (t:=false) rfl (fun h=>nomatch h) (fun _=>?_);refine Aab (Aad (Aaa 3 rfl (Aac ?_)))
   refine Aar rfl beq_iff_eq (fun g2=>?_) (fun g2=>?_)
   ·refine Aab (Aad (Aaa 1 rfl ?_))
    refine Aae (AaT rfl rfl h0 rfl rfl rfl rfl (Nat.le_of_ble_eq_true rfl) rfl) rfl rfl rfl rfl ?_;refine Aac ?_;refine AaA ?_
    refine Aad ?_;refine Aae (Aax (b:=1) rfl rfl (by omega)) rfl rfl rfl rfl ?_;refine Aaa 1 rfl (Aac ?_)
    have hst:putP w h (x,y,L) (out.take (i+1))=(0,y',L'):=by
     rw [hn];unfold step;rw [if_neg g,if_pos (by omega)]
    refine⟨(i+1,b),by omega,by (repeat' (first | exact Aan | refine Aah rfl ?_)),by omega,hb,⟨L0,?_⟩,?_,?_⟩
    ·rw [hst,Aag,if_pos ⟨rfl,by omega⟩];rfl
    ·rw [Aag,if_neg (by omega)];exact h1
    ·rw [hst,Aag,if_neg (by omega)];exact h2
   refine Aab (Aad (Aaa 3 rfl (Aac ?_)))
   refine Aar rfl beq_iff_eq (fun g3=>?_) (fun g3=>?_)
   ·have hst:putP w h (x,y,L) (out.take (i+1))=(x' - 1,y',L'):=by
     rw [hn];unfold step;rw [if_neg g,if_neg (by omega),if_pos (by omega)]
    refine Aab (Aad (Aaa 1 rfl ?_));refine Aae (AaG rfl h0 rfl (Nat.le_of_ble_eq_true rfl) rfl) rfl rfl rfl rfl ?_
    refine Aae (o_sub rfl rfl rfl (by omega) (by omega)) rfl rfl rfl rfl ?_
    refine Aae (o_maxI (vs:=[.int .i64 ((x':Int) - 1),.int .i64 0]) (v:=n6 (x' - 1)) rfl (by
     simp only [aext,foldI,if_true,Option.map_some];congr 2
     split<;>omega)) rfl rfl rfl rfl ?_
    refine Aaa 1 rfl ?_;refine Aae (AaT rfl rfl h0 rfl rfl rfl rfl (Nat.le_of_ble_eq_true rfl) rfl) rfl rfl rfl rfl ?_;refine Aac ?_
    refine AaA ?_;refine Aad ?_;refine Aae (Aax (b:=1) rfl rfl (by omega)) rfl rfl rfl rfl ?_;refine Aaa 1 rfl (Aac ?_)
    refine⟨(i+1,b),by omega,by (repeat' (first | exact Aan | refine Aah rfl ?_)),by omega,hb,⟨L0,?_⟩,?_,?_⟩
    ·rw [hst,Aag,if_pos ⟨rfl,by omega⟩];rfl
    ·rw [Aag,if_neg (by omega)];exact h1
    ·rw [hst,Aag,if_neg (by omega)];exact h2
   refine Aab (Aad (Aaa 3 rfl (Aac ?_)))
   refine Aar rfl beq_iff_eq (fun g4=>?_) (fun g4=>?_)
   ·have hst:putP w h (x,y,L) (out.take (i+1))=(0,0,List.replicate (w*h) 32):=by
     rw [hn];unfold step;rw [if_neg g,if_neg (by omega),if_neg (by omega),if_pos (by omega)]
    have hrp:=rep_ok 32 (w*h) (by omega)
    refine Aab (Aad (Aaa 2 rfl ?_));refine Aap rfl rfl (hrp) rfl rfl rfl rfl rfl rfl ?_
    refine Abh (Ani rfl) rfl rfl rfl rfl ?_;refine Aaa 1 rfl (Aac (Aab (Aad (Aaa 1 rfl ?_))))
    refine Aae (AaT rfl rfl (Aay (by omega) (Aba h0)) rfl rfl rfl rfl (Nat.le_of_ble_eq_true rfl) rfl) rfl rfl rfl rfl ?_
    refine Aaa 1 rfl ?_
    refine Aae (AaT rfl rfl (Aam (Aay (by omega) (Aba h0))) rfl rfl rfl rfl (Nat.le_of_ble_eq_true rfl) rfl) rfl rfl rfl rfl ?_
    refine Aac ?_;refine AaA ?_;refine Aad ?_;refine Aae (Aax (b:=1) rfl rfl (by omega)) rfl rfl rfl rfl ?_;refine Aaa 1 rfl ?_
    refine Aac ?_
    rw [List.length_replicate]
    have hS1:1<S.length:=by omega
    refine⟨(i+1,S.length),by omega,by (repeat' (first | exact Aan | refine Aah rfl ?_)),by omega,by omega,⟨L0,?_⟩,?_,?_⟩
    ·rw [hst,Aag,if_pos ⟨rfl,by simp⟩];rfl
    ·rw [Aag,if_neg (by omega),Aag,if_neg (by omega),Aag,if_neg (by omega),List.getElem?_append_left hS1];exact h1
    ·rw [hst,Aag,if_neg (by omega),Aag,if_neg (by omega),Aag,if_pos ⟨rfl,by simp⟩]
   refine Aab (Aad (Aaa 3 rfl (Aac ?_)))
   refine Aar rfl bne_iff_ne (fun g5=>?_) (fun g5=>Aao ?_)
   ·refine AaA ?_;refine Aad ?_;refine Aae (Aax (b:=1) rfl rfl (by omega)) rfl rfl rfl rfl ?_;refine Aaa 1 rfl (Aac ?_)
    have hst:putP w h (x,y,L) (out.take (i+1))=(x',y',L'):=by
     rw [hn];unfold step;rw [if_neg g,if_neg (by omega),if_neg (by omega),if_neg (by omega),if_neg (by omega)]
    exact⟨(i+1,b),by omega,by (repeat' (first | exact Aan | refine Aah rfl ?_)),by omega,hb,⟨L0,by rw [hst];exact h0⟩,h1,by rw [hst];exact h2⟩
   refine Aab (Aad (Aaa 1 rfl ?_))
   refine Aae (AaT rfl rfl h0 rfl rfl rfl rfl (Nat.le_of_ble_eq_true rfl) rfl) rfl rfl rfl rfl ?_;refine Aac (Aab ?_)
   refine Aab (Aad (Aaa 1 rfl ?_))
   refine Aae (AaG rfl (Aam h0) rfl (Nat.le_of_ble_eq_true rfl) rfl) rfl rfl rfl rfl ?_
   refine Aae (Aax (b:=1) rfl rfl (by omega)) rfl rfl rfl rfl ?_;refine Aaa 1 rfl ?_
   refine Aae (AaT rfl rfl (Aam h0) rfl rfl rfl rfl (Nat.le_of_ble_eq_true rfl) rfl) rfl rfl rfl rfl ?_;refine Aac (Aab ?_)
   refine Aad (Aaa 1 rfl ?_);refine Aae (AaG rfl (Aam (Aam h0)) rfl (Nat.le_of_ble_eq_true rfl) rfl) rfl rfl rfl rfl ?_
   refine Aaa 1 rfl ?_;refine Aae (AaG rfl (Aam (Aam h0)) rfl (Nat.le_of_ble_eq_true rfl) rfl) rfl rfl rfl rfl ?_
   refine Aaa 1 rfl (Aac ?_)
   refine Aar rfl decide_eq_true_iff (fun c=>?_) (fun c=>Aao ?_)
   ·refine AaA ?_;refine Aad ?_;refine Aae (Aax (b:=1) rfl rfl (by omega)) rfl rfl rfl rfl ?_;refine Aaa 1 rfl (Aac ?_)
    have hst:putP w h (x,y,L) (out.take (i+1))=(0,y'+1,L'):=by
     rw [hn];unfold step;rw [if_neg g,if_neg (by omega),if_neg (by omega),if_neg (by omega),if_pos (by omega)];unfold down;rw [if_pos (show y'+1<h by omega)]
    refine⟨(i+1,b),by omega,by (repeat' (first | exact Aan | refine Aah rfl ?_)),by omega,hb,⟨L0,?_⟩,?_,?_⟩
    ·rw [hst,Aag,if_pos ⟨rfl,by simp;omega⟩];rfl
    ·rw [Aag,if_neg (by omega),Aag,if_neg (by omega)];exact h1
    ·rw [hst,Aag,if_neg (by omega),Aag,if_neg (by omega)];exact h2
   ·refine Aab (Aad (Aaa 1 rfl ?_))
    refine Aae (AaG rfl (Aam (Aam h0)) rfl (Nat.le_of_ble_eq_true rfl) rfl) rfl rfl rfl rfl ?_
    refine Aae (AbQ (b:=1) rfl rfl (by omega) (by omega)) rfl rfl rfl rfl ?_;refine Aaa 1 rfl ?_
    refine Aae (AaT rfl rfl (Aam (Aam h0)) rfl rfl rfl rfl (Nat.le_of_ble_eq_true rfl) rfl) rfl rfl rfl rfl ?_;refine Aac ?_
    refine Aab (Aad (Aaa 3 rfl ?_))
    refine Aae (AaG rfl (Aam (Aam (Aam h0))) rfl (Nat.le_of_ble_eq_true rfl) rfl) rfl rfl rfl rfl ?_
    have hst:putP w h (x,y,L) (out.take (i+1))=(0,y',(L').drop w++List.replicate w 32):=by
     rw [hn];unfold step;rw [if_neg g,if_neg (by omega),if_neg (by omega),if_neg (by omega),if_pos (by omega)];unfold down;rw [if_neg (show ¬ y'+1<h by omega)]
    generalize hT:(List.set _ 0 _:Store)=T
    have t0:T[0]?=some (some ⟨5,[[n6 w,n6 h,n6 0,n6 y',.str L0]]⟩):=by rw [←hT,Aag,if_pos ⟨rfl,by simp;omega⟩];rfl
    have t1:T[1]?=some (some ⟨5,[zs .i64 4++[.str []]]⟩):=by rw [←hT,Aag,if_neg (by omega),Aag,if_neg (by omega),Aag,if_neg (by omega)];exact h1
    have t2:T[b]?=some (some ⟨1,bR (L')⟩):=by rw [←hT,Aag,if_neg (by omega),Aag,if_neg (by omega),Aag,if_neg (by omega)];exact h2
    clear hT
    have q3':(L').length=w*h:=q3
    generalize L'=L2 at *
    refine Aae (AcI rfl t2 (by simp;omega) (Aby rfl) Aef (Nat.le_mul_of_pos_right _ (by omega)) (by simp;omega)) rfl rfl rfl rfl ?_
    have ew:w≤w*h:=Nat.le_mul_of_pos_right _ (by omega)
    refine Aae (o_copy_view rfl rfl t2 (by simp;omega) (ys:=bR (L2.drop w)) (by rw [←List.map_drop,List.take_of_length_le (by simp;omega)]) t2 (n:=w*h - w) (by simp;omega) (by simp;omega) (bR_st _ _)) rfl rfl rfl rfl ?_
    have tl:=(List.getElem?_eq_some_iff.1 t2).1
    have hrp:=rep_ok 32 w (by omega)
    have ey:y'+1=h:=by omega
    have hsc:=Amn q3' ey
    generalize hR:(bR L2).take 0++(bR (L2.drop w)).take (w*h - w)++(bR L2).drop (0+(w*h - w))=R at hsc ⊢
    have lR:R.length=w*h:=by rw [←hR];simp;omega
    have t0':(T.set b (some ⟨1,R⟩))[0]?=some (some ⟨5,[[n6 w,n6 h,n6 0,n6 y',.str L0]]⟩):=by rw [Aag,if_neg (by omega)];exact t0
    have t1':(T.set b (some ⟨1,R⟩))[1]?=some (some ⟨5,[zs .i64 4++[.str []]]⟩):=by rw [Aag,if_neg (by omega)];exact t1
    have t2':(T.set b (some ⟨1,R⟩))[b]?=some (some ⟨1,R⟩):=by rw [Aag,if_pos ⟨rfl,tl⟩]
    generalize T.set b (some ⟨1,R⟩)=T' at *
    have ey2:w*h=y'*w+w:=by rw [←ey,Nat.mul_add,Nat.mul_one,Nat.mul_comm]
    refine Aac ?_;refine AaH rfl ?_;refine Aal 2 rfl ?_;refine Aai rfl rfl (AaG rfl t0' rfl (Nat.le_of_ble_eq_true rfl) rfl) ?_
    refine Aal 1 rfl ?_;refine Aai rfl rfl (AaG rfl t0' rfl (Nat.le_of_ble_eq_true rfl) rfl) ?_
    refine Aai rfl rfl (Aey rfl rfl (by omega)) ?_
    refine Aai rfl rfl (AcI rfl t2' (by omega) (Aby rfl) Aef (by omega) (by omega)) ?_
    refine Aal 1 rfl ?_;refine Aai rfl rfl (AaG rfl t0' rfl (Nat.le_of_ble_eq_true rfl) rfl) ?_
    refine AaS rfl rfl (hrp) rfl rfl rfl rfl rfl ?_
    refine Aai rfl rfl (o_copy_rows (ys:=bR (List.replicate w 32)) (n:=w) rfl rfl (by simp only [rowsOf,if_true,Aco]) t2' (by simp;omega) (by omega) (bR_st _ _)) ?_
    refine AaQ ?_;refine⟨rfl,?_⟩;refine Aad ?_;refine Aae (Aax (b:=1) rfl rfl (by omega)) rfl rfl rfl rfl ?_;refine Aaa 1 rfl ?_
    refine Aac ?_
    have tl':=(List.getElem?_eq_some_iff.1 t2').1
    refine⟨(i+1,b),by omega,by (repeat' (first | exact Aan | refine Aah rfl ?_)),by omega,hb,⟨L0,?_⟩,?_,?_⟩
    ·rw [hst,Aag,if_neg (by omega)];exact t0'
    ·rw [Aag,if_neg (by omega)];exact t1'
    ·rw [hst,Aag,if_pos ⟨rfl,tl'⟩,hsc]
 ·have:i=out.length:=by omega
  subst this
  rw [List.take_length] at h0 h2
  have hq:=AmY out hs
  have h2l:=(List.getElem?_eq_some_iff.1 h1).1
  refine Aab (Aad (Aaa 1 rfl ?_))
  refine Aae (o_text rfl h2 (by rw [hq.2.2];omega)) rfl rfl rfl rfl ?_
  rw [List.drop_zero,←hq.2.2,List.take_length]
  refine Aaa 1 rfl ?_;refine Aae (AaT rfl rfl h0 rfl rfl rfl rfl (Nat.le_of_ble_eq_true rfl) rfl) rfl rfl rfl rfl ?_;refine Aac ?_
  refine Aab (Aad ?_);refine Aae (AaG rfl (Aam h0) rfl (Nat.le_of_ble_eq_true rfl) rfl) rfl rfl rfl rfl ?_
  refine Aae (AaT rfl rfl (Aay (by omega) h1) rfl rfl rfl rfl (Nat.le_of_ble_eq_true rfl) rfl) rfl rfl rfl rfl ?_;refine Aac ?_
  exact AaD (AcO rfl (by rw [Aag,if_pos ⟨rfl,by simp;omega⟩];rfl) rfl rfl)
end Go.Eng.Rf
namespace Go.Eng.Rf
open Go Go.Eng
variable [Inhabited GlobT]
attribute [local irreducible] OpR TL TD TC TS Aaz
theorem o_slice_imm {AP:AaB} {m:FM} {slot:Nat} {S:Store} {sz k:Nat} {x l:AOpd} {kk:IntKind} {rows:List (List AVal)} (hx:lo m x=some (.imm rows)) (hl:lo m l=some (.int kk (k:Int))) (hk:k≤rows.length) (hr:AiY sz rows[k]?=true) :
 OpR AP m slot S (.slice sz x (some l) none none) (.imm (rows.drop k)) S ([],[]) :=
 AdM fun fr hfr n=>by
  have:(k:Int)≤(rows.length:Int):=by omega
  simp [semX,sem,hfr.opd hx,hfr.opd hl,abound,RM.run,this,hr]
def AeG (S:Store) (v:AVal) (rows:List (List AVal)):Prop:=v = .imm rows∨(∃b,2≤b∧v = .view b 0 rows.length false∧S[b]?=some (some ⟨1,rows⟩))
theorem AdW (A:List (List UInt8)) (r:List UInt8):rowsR (A++[r])=rowsR A++[[.str r]]:=List.map_append
abbrev docV (w h x y:Nat) (A:List (List UInt8)):AVal := .agg [n6 w,n6 h,n6 x,n6 y,.imm (rowsR A)]
theorem retd_doc {m:FM} {S:Store} {t b sz' a1 a2 a3 a4:Nat} {v:AVal} {A:List (List UInt8)} (h:lkp m t=some (.ptr b 0 0)) (h1:S[b]?=some (some ⟨sz',[[n6 a1,n6 a2,n6 a3,n6 a4,v]]⟩)) (hv:AeG S v (rowsR A)) :
 (AbV.ret = .normal∨AbV.ret = .ret)∧∃ vs ids,Acv m S [.cell t true 5]=some vs∧(frz AaM (one vs)).run S=some (docV a1 a2 a3 a4 A,ids):=by
 refine retd (vs:=[.agg [n6 a1,n6 a2,n6 a3,n6 a4,v]]) ?_ ?_
 ·simp only [Acv,Als,h,sem,RM.run,h1,List.getElem?_cons_zero,Nat.zero_add,if_true,Eff.o,Acg,List.drop_zero];rfl
 ·rcases hv with rfl | ⟨b',_,rfl,h4⟩
  ·exact⟨_,AaJ (by simp [one,AVal.closed,AaC])⟩
  ·have hf:=AlO (n:=4) (off:=0) (full:=false) (len:=(rowsR A).length) h4 (by simp) (by rw [List.drop_zero,List.take_length]) (AkU A)
   exact⟨_,frzI_agg (n:=5) (by simp [AaC,AVal.closed]) (Agx (AaJ rfl) (Agx (AaJ rfl) (Agx (AaJ rfl) (Agx (AaJ rfl) (Agx hf (frzI_closed (vs:=[]) rfl))))))⟩
theorem rnew_ok (w h:Nat) (hw:w≤80) (h0:1≤h) (hh:h≤24):Aaz APr Anw [n6 w,n6 h] (docV w h 0 0 (List.replicate h (List.replicate w 32))):=by
 have hb:=blank_ok w hw
 refine Aav (af:=c_r11_New) rfl rfl ?_
 refine Aab (Aad (Aaa 1 rfl (Aac (Aab (Aad (Aaa 2 rfl ?_))))))
 refine Aae (Adl rfl rfl) rfl rfl rfl rfl ?_;refine Aaa 2 rfl (Aac (Aab (Aab (Aad ?_))))
 refine Aaa 1 rfl (Aac ?_)
 refine Aak (AaE (σ:=Nat × AVal) (fun s=>h - s.1) (fun s=>[(0,n6 w),(1,n6 h),(4,.ptr 0 0 0),(5,.ptr 1 0 0),(6,n6 s.1)])
  (fun s S=>s.1≤h∧S[0]?=some (some ⟨5,[zs .i64 4++[.nils]]⟩)∧S[1]?=some (some ⟨5,[[n6 w,n6 h,n6 0,n6 0,s.2]]⟩)∧Acc 2 1 S s.2 (rowsR (List.replicate s.1 (List.replicate w 32)))) (0,.nils) (by (repeat' (first | exact Aan | refine Aah rfl ?_))) ⟨Nat.zero_le _,rfl,rfl,AgX⟩ ?_)
 rintro⟨i,v⟩ S ⟨hi,h1,h2,hv⟩
 dsimp only at hi h1 h2 hv ⊢
 refine Aab (Aab (Aad (Aaa 3 rfl (Aac ?_))))
 refine Aar rfl decide_eq_true_iff (fun c=>Aao ?_) (fun c=>AaA ?_)
 ·have l0:=(List.getElem?_eq_some_iff.1 h2).1
  refine Aab ?_;refine Aak ?_;refine AdK [none] rfl ?_;refine Aal 1 rfl ?_
  refine Aai rfl rfl (AaG rfl (Aba h2) rfl (Nat.le_of_ble_eq_true rfl) rfl) ?_;refine Aal 1 rfl ?_
  refine AaS rfl rfl (hb) rfl rfl rfl rfl rfl ?_;refine Aai rfl rfl (AaU rfl rfl rfl) ?_
  refine Aai rfl rfl (o_accD rfl rfl (hv.snoc [none]) rfl (by simp) rfl (by simp;omega)) ?_
  have k0:(killV v (S++[none]))[0]?=S[0]?:=by rw [kill_get hv (by omega),List.getElem?_append_left (by omega)]
  have k1:(killV v (S++[none]))[1]?=S[1]?:=by rw [kill_get hv (by omega),List.getElem?_append_left (by omega)]
  have kl:(killV v (S++[none])).length=S.length+1:=by rw [kill_len];simp
  generalize killV v (S++[none])=T at *
  generalize hU:T.set S.length (some ⟨1,rowsR (List.replicate i (List.replicate w 32))++[[.str (List.replicate w 32)]]⟩)=U
  have u0:U[0]?=some (some ⟨5,[zs .i64 4++[.nils]]⟩):=by rw [←hU,Aag,if_neg (by omega),k0];exact h1
  have u1:U[1]?=some (some ⟨5,[[n6 w,n6 h,n6 0,n6 0,v]]⟩):=by rw [←hU,Aag,if_neg (by omega),k1];exact h2
  have u2:U[S.length]?=some (some ⟨1,rowsR (List.replicate (i+1) (List.replicate w 32))⟩):=by
   rw [←hU,Aag,if_pos ⟨rfl,by omega⟩,List.replicate_succ',AdW]
  have ul:1<U.length:=by have:=(List.getElem?_eq_some_iff.1 u1).1;omega
  refine Aal 1 rfl ?_;refine Aai rfl rfl (AaT rfl rfl u1 rfl rfl rfl rfl (Nat.le_of_ble_eq_true rfl) rfl) ?_;refine AaQ ?_;refine⟨rfl,?_⟩
  refine Aad (Aaa 1 rfl ?_);refine Aae (Aax (b:=1) rfl rfl (by omega)) rfl rfl rfl rfl ?_;refine Aaa 1 rfl ?_
  refine Aac ?_
  refine⟨(i+1,.view S.length 0 (i+1) false),by omega,by (repeat' (first | exact Aan | refine Aah rfl ?_)),by omega,?_,?_,.inr ⟨by simp,S.length,by omega,by simp,?_⟩⟩
  ·rw [Aag,if_neg (by omega)];exact u0
  ·rw [Aag,if_pos ⟨rfl,ul⟩];simp;rfl
  ·rw [Aag,if_neg (by omega)];exact u2
 ·have:i=h:=by omega
  subst this
  have l0:=(List.getElem?_eq_some_iff.1 h2).1
  rcases hv with⟨_,e⟩ | ⟨_,b,hb2,rfl,hb4⟩
  ·have:=congrArg List.length e;simp at this;omega
  ·refine Aab (Aad ?_);refine Aae (AaG rfl h2 rfl (Nat.le_of_ble_eq_true rfl) rfl) rfl rfl rfl rfl ?_
   refine Aae (AaT rfl rfl h1 rfl rfl rfl rfl (Nat.le_of_ble_eq_true rfl) rfl) rfl rfl rfl rfl ?_;refine Aac ?_
   refine AaD (retd_doc rfl (by rw [Aag,if_pos ⟨rfl,by omega⟩];rfl) (.inr ⟨b,hb2,rfl,by rw [Aag,if_neg (by omega)];exact hb4⟩))
def downA (w h y:Nat) (A:List (List UInt8)):Nat × List (List UInt8):=if y+1<h then (y+1,A) else (y,A.drop 1++[List.replicate w 32])
end Go.Eng.Rf
namespace Go.Eng.Rf
open Go Go.Eng
variable [Inhabited GlobT]
abbrev AhR (w:Nat) (L:List UInt8) (j:Nat):List UInt8:=(L.drop (j*w)).take w
theorem AgQ (w h:Nat) (L:List UInt8):(cut w h L).length=h:=by unfold cut;simp
theorem cut_get {w h j:Nat} (L:List UInt8) (hj:j<h):(cut w h L)[j]?=some (AhR w L j):=by
 unfold cut;rw [List.getElem?_map,List.getElem?_range hj];rfl
theorem row_len {w h j:Nat} {L:List UInt8} (hL:L.length=w*h) (hj:j<h):(AhR w L j).length=w:=by
 have:=Nat.mul_le_mul_right w (show j+1≤h from hj)
 rw [Nat.add_mul,Nat.one_mul,Nat.mul_comm h w] at this
 rw [List.length_take,List.length_drop];omega
theorem row_get {w h j k:Nat} {L:List UInt8} (hk:k<w):(AhR w L j)[k]?=L[j*w+k]?:=by
 rw [List.getElem?_take,if_pos hk,List.getElem?_drop]
theorem row_set_ne {w x y j:Nat} {L:List UInt8} {c:UInt8} (hx:x<w) (hj:j≠y):AhR w (L.set (y*w+x) c) j=AhR w L j:=by
 refine List.ext_getElem? fun k=>?_
 rcases Nat.lt_or_ge k w with hk | hk
 ·rw [List.getElem?_take,if_pos hk,List.getElem?_drop,List.getElem?_take,if_pos hk,List.getElem?_drop,List.getElem?_set,if_neg]
  intro e
  rcases Nat.lt_or_gt_of_ne hj with g | g
  ·have:=Nat.mul_le_mul_right w (show j+1≤y from g)
   rw [Nat.add_mul,Nat.one_mul] at this;omega
  ·have:=Nat.mul_le_mul_right w (show y+1≤j from g)
   rw [Nat.add_mul,Nat.one_mul] at this;omega
 ·rw [List.getElem?_take,if_neg (by omega),List.getElem?_take,if_neg (by omega)]
theorem row_set_eq {w h x y:Nat} {L:List UInt8} {c:UInt8} (hx:x<w) (hy:y<h) (hL:L.length=w*h):AhR w (L.set (y*w+x) c) y=(AhR w L y).take x++[c]++(AhR w L y).drop (x+1):=by
 have hl:=row_len hL hy
 have h1:AhR w (L.set (y*w+x) c) y=(AhR w L y).set x c:=by
  refine List.ext_getElem? fun k=>?_
  have hyl:y*w+w≤L.length:=by
   have:=Nat.mul_le_mul_right w (show y+1≤h from hy)
   rw [Nat.add_mul,Nat.one_mul,Nat.mul_comm h w] at this;omega
  rcases Nat.lt_or_ge k w with hk | hk
  ·rw [List.getElem?_take,if_pos hk,List.getElem?_drop,List.getElem?_set,List.getElem?_set,hl,List.getElem?_take,if_pos hk,List.getElem?_drop]
   by_cases e:x=k
   ·subst e;rw [if_pos rfl,if_pos (by omega),if_pos rfl,if_pos hk]
   ·rw [if_neg (by omega),if_neg e]
  ·rw [List.getElem?_take,if_neg (by omega),List.getElem?_eq_none (by rw [List.length_set,hl];exact hk)]
 rw [h1,List.set_eq_take_append_cons_drop,if_pos (by omega),List.append_assoc]
 rfl
theorem cut_down {w h:Nat} {L:List UInt8} (hL:L.length=w*h) (h0:0<h):(cut w h L).drop 1++[List.replicate w 32]=cut w h (L.drop w++List.replicate w 32):=by
 obtain⟨g,rfl⟩:∃ g,h=g+1:=⟨h - 1,by omega⟩
 have hle:L.length=w*g+w:=by rw [hL,Nat.mul_add,Nat.mul_one]
 have hdl:(L.drop w).length=w*g:=by rw [List.length_drop];omega
 rw [AjC w g (L.drop w++List.replicate w 32)]
 congr 1
 ·unfold cut
  refine List.ext_getElem? fun k=>?_
  rw [List.getElem?_drop]
  rcases Nat.lt_or_ge k g with hk | hk
  ·rw [List.getElem?_map,List.getElem?_map,List.getElem?_range (by omega),List.getElem?_range hk]
   simp only [Option.map_some]
   have e1:=Nat.mul_le_mul_right w (show k+1≤g from hk)
   rw [Nat.add_mul,Nat.one_mul,Nat.mul_comm g w] at e1
   rw [List.drop_append_of_le_length (by omega),List.take_append_of_le_length (by rw [List.length_drop];omega),List.drop_drop]
   congr 3
   rw [Nat.add_mul,Nat.one_mul]
  ·rw [List.getElem?_eq_none (by simp;omega),List.getElem?_eq_none (by simp;omega)]
 ·rw [Nat.mul_comm g w,←hdl,List.drop_left,List.take_of_length_le (by simp)]
theorem cut_blank (w h:Nat):List.replicate h (List.replicate w (32:UInt8))=cut w h (List.replicate (w*h) 32):=by
 refine List.ext_getElem? fun k=>?_
 rcases Nat.lt_or_ge k h with hk | hk
 ·rw [cut_get _ hk,List.getElem?_replicate,if_pos hk]
  have e1:=Nat.mul_le_mul_right w (show k+1≤h from hk)
  rw [Nat.add_mul,Nat.one_mul,Nat.mul_comm h w] at e1
  unfold AhR
  rw [List.drop_replicate,List.take_replicate,Nat.min_eq_left (by omega)]
 ·rw [List.getElem?_eq_none (by simpa using hk),List.getElem?_eq_none (by rw [AgQ];exact hk)]
theorem cut_downA {w h y:Nat} {L:List UInt8} (hL:L.length=w*h) (hy:y<h):downA w h y (cut w h L)=((down w h y L).1,cut w h (down w h y L).2):=by
 unfold downA down
 split
 ·rfl
 ·rw [cut_down hL (by omega)]
end Go.Eng.Rf
namespace Go.Eng.Rf
open Go Go.Eng
variable [Inhabited GlobT]
attribute [local irreducible] OpR TL TD TC TS Aaz
theorem AeG.other {S T:Store} {v:AVal} {rows:List (List AVal)} (h:AeG S v rows) (hs:∀ j,2≤j→j<S.length→T[j]?=S[j]?):AeG T v rows:=by
 rcases h with h | ⟨b,h2,h3,h4⟩
 ·exact .inl h
 ·exact .inr ⟨b,h2,h3,by rw [hs b h2 (List.getElem?_eq_some_iff.1 h4).1];exact h4⟩
theorem tl_row {N:Nat} {d1 d2:Nat} {xo io:AOpd} {v:AVal} {A:List (List UInt8)} {i:Nat} {r:List UInt8} {l:List Aaq} {m:FM} {S:Store} {K:FM→Store→Prop} (hv:AeG S v (rowsR A)) (hx:lo m xo=some v) (hi:lo m io=some (n6 i)) (hr:A[i]?=some r)
 (h1:d1<N) (h2:d2<N) (hk:∀ p,TL APr N l ((d2,.str r)::(d1,p)::m) S K):TL APr N (i1 d1 (.iaddr 1 xo io)::i1 d2 (.load false 1 (.t d1))::l) m S K:=by
 have hr2:(rowsR A)[i]?=some [.str r]:=by rw [List.getElem?_map,hr];rfl
 have hi':=(List.getElem?_eq_some_iff.1 hr).1
 have hl1:∀ p,lo (putM m (some d1) p) (.t d1)=some p:=fun p=>by simp [putM,lo,lkp]
 rcases hv with rfl | ⟨b,_,rfl,h4⟩
 ·refine Aae (Ack hx hi hr2 rfl) rfl (by simpa using h1) rfl rfl ?_
  refine Aae (AjR (hl1 _) (Nat.le_refl _) rfl) rfl (by simpa using h2) rfl rfl ?_
  exact hk _
 ·refine Aae (AaP hx hi (by simpa using hi') h4 rfl) rfl (by simpa using h1) rfl rfl ?_
  refine Aae (AaG (hl1 _) h4 hr2 (Nat.le_refl _) rfl) rfl (by simpa using h2) rfl rfl ?_
  exact hk _
theorem st5 (a b c d:Nat) (v:AVal):[n6 a,n6 b,n6 c,n6 d,v].all storable=storable v:=by
 show (true && (true && (true && (true && (storable v && true)))))=_
 simp
theorem loRes_c {m:FM} {S:Store} {t sz b sz':Nat} {r:List AVal} (h:lkp m t=some (.ptr b 0 0)) (h1:S[b]?=some (some ⟨sz',[r]⟩)) (h2:r.length=sz):Acv m S [.cell t true sz]=some [.agg r]:=by
 subst h2
 simp only [Acv,Als,h,sem,RM.run,h1,List.getElem?_cons_zero,Nat.zero_add,Nat.le_refl,if_true,Eff.o,Acg,List.drop_zero,List.take_length]
theorem tl_down {N:Nat} {d:Nat} {xo:AOpd} {g:Option (Nat × Bool)} {un:List Nat} {v:AVal} {w h x y:Nat} {A:List (List UInt8)} {l:List Aaq} {m:FM} {S:Store} {K:FM→Store→Prop} (hv:AeG S v (rowsR A)) (hx:lo m xo=some (.agg [n6 w,n6 h,n6 x,n6 y,v]))
 (hd:d<N) (hg:gd m g=some true) (hw:w≤80) (hh:h≤24) (hA:A.length=h) (hy:y<h) (hS:2≤S.length)
 (hk:∀ v' S',(∀ j,j<S.length→S'[j]?=S[j]?)→AeG S' v' (rowsR (downA w h y A).2)→storable v'=true→TL APr N l ((d,.agg [n6 w,n6 h,n6 0,n6 (downA w h y A).1,v'])::m) S' K) :
 TL APr N (⟨some d,.call (.c (.fn (.func AjZ) [] [])) [xo],g,un⟩::l) m S K:=by
 have hb:=blank_ok w hw
 have hsv:storable v=true:=by rcases hv with rfl | ⟨b,_,rfl,_⟩<;>rfl
 refine tl_share (ags:=[.agg [n6 w,n6 h,n6 x,n6 y,v]]) (af:=Akv) (by simpa using hd) hg (by simp only [los,hx]) rfl rfl rfl rfl rfl rfl rfl rfl ?_
 refine Aab (Aad ?_);refine Abh (o_box rfl rfl rfl rfl) rfl rfl rfl rfl ?_;refine Adh rfl rfl ?_;refine Aac ?_
 refine Aab (Aad (Aaa 1 rfl ?_))
 refine Aae (AaT rfl rfl (Aba (Aam Abc)) rfl rfl rfl rfl (Nat.le_of_ble_eq_true rfl) rfl) rfl rfl rfl rfl ?_;refine Aac ?_
 refine Aab (Aab (Aad (Aaa 1 rfl ?_)))
 refine Aae (AaG rfl (Aam (Aba (Aam Abc))) rfl (Nat.le_of_ble_eq_true rfl) rfl) rfl rfl rfl rfl ?_
 refine Aae (Aax (b:=1) rfl rfl (by omega)) rfl rfl rfl rfl ?_;refine Aaa 1 rfl ?_
 refine Aae (AaG rfl (Aam (Aba (Aam Abc))) rfl (Nat.le_of_ble_eq_true rfl) rfl) rfl rfl rfl rfl ?_;refine Aaa 1 rfl ?_
 refine Aac ?_
 have hl:∀ X:Option ABlock,(List.set (S++[none]) S.length X).length=S.length+1:=by simp
 rw [hl]
 generalize hT:(List.set _ S.length _:Store)=T
 have t0:T[S.length]?=some (some ⟨5,[[n6 w,n6 h,n6 0,n6 y,v]]⟩):=by rw [←hT,Aag,if_pos ⟨rfl,by simp⟩];rfl
 have t1:T[S.length+1]?=some (some ⟨5,[zs .i64 4++[.nils]]⟩):=by rw [←hT,Aag,if_neg (by omega)];simp
 have t2:∀ j,j<S.length→T[j]?=S[j]?:=fun j hj=>by
  rw [←hT,Aag,if_neg (by omega),List.getElem?_append_left (by simp;omega),Aag,if_neg (by omega),List.getElem?_append_left hj]
 clear hT hl
 have tl:=(List.getElem?_eq_some_iff.1 t1).1
 have hvT:AeG T v (rowsR A):=hv.other fun j _ hj=>t2 j hj
 refine Aar rfl decide_eq_true_iff (fun c=>?_) (fun c=>Aao ?_)
 ·have hdn:downA w h y A=(y+1,A):=if_pos (by omega)
  rw [hdn] at hk
  refine Aab (Aad (Aaa 1 rfl ?_));refine Aae (AaG rfl t0 rfl (Nat.le_of_ble_eq_true rfl) rfl) rfl rfl rfl rfl ?_
  refine Aae (Aax (b:=1) rfl rfl (by omega)) rfl rfl rfl rfl ?_;refine Aaa 1 rfl ?_
  refine Aae (AaT rfl rfl t0 rfl rfl rfl rfl (Nat.le_of_ble_eq_true rfl) rfl) rfl rfl rfl rfl ?_;refine Aac (Aab ?_)
  refine Aad ?_;refine Aae (AaG rfl (Aam t0) rfl (Nat.le_of_ble_eq_true rfl) rfl) rfl rfl rfl rfl ?_
  generalize hU:(List.set _ S.length _:Store)=U
  have u0:U[S.length]?=some (some ⟨5,[[n6 w,n6 h,n6 0,n6 (y+1),v]]⟩):=by rw [←hU,Aag,if_pos ⟨rfl,by omega⟩];rfl
  have u1:U[S.length+1]?=some (some ⟨5,[zs .i64 4++[.nils]]⟩):=by rw [←hU,Aag,if_neg (by omega)];exact t1
  have u2:∀ j,j<S.length→U[j]?=S[j]?:=fun j hj=>by rw [←hU,Aag,if_neg (by omega)];exact t2 j hj
  clear hU
  have ul:=(List.getElem?_eq_some_iff.1 u1).1
  refine Aae (AaT (r:=zs .i64 4++[.nils]) (cs:=[n6 w,n6 h,n6 0,n6 (y+1),v]) rfl rfl u1 rfl rfl rfl rfl (by decide) (by rw [st5];exact hsv)) rfl rfl rfl rfl ?_
  refine Aac ?_
  trace_state
  refine AaD ⟨.inr rfl,[.agg [n6 w,n6 h,n6 0,n6 (y+1),v]],loRes_c rfl (by rw [Aag,if_pos ⟨rfl,ul⟩];rfl) rfl,hk v _ (fun j hj=>?_) (hv.other fun j _ hj=>?_) hsv⟩
  ·rw [Aag,if_neg (by omega)];exact u2 j hj
  ·rw [Aag,if_neg (by omega)];exact u2 j hj
 ·have hdn:downA w h y A=(y,A.drop 1++[List.replicate w 32]):=if_neg (by omega)
  rw [hdn] at hk
  have hd1:(rowsR A).drop 1=rowsR (A.drop 1):=List.map_drop.symm
  refine Aab (Aad (Aaa 1 rfl (Aac ?_)))
  refine tc_cut (σ:=AVal) (fun v1=>[(1,.ptr S.length 0 0),(2,.ptr (S.length+1) 0 0),(3,v1)])
   (fun v1 U=>Acc (S.length+2) 1 U v1 (rowsR (A.drop 1))∧U[S.length]?=some (some ⟨5,[[n6 w,n6 h,n6 0,n6 y,v]]⟩)∧U[S.length+1]?=some (some ⟨5,[zs .i64 4++[.nils]]⟩)∧∀ j,j<S.length→U[j]?=S[j]?) ?_ ?_
  ·have hU:∀ (X:Option ABlock) (j:Nat),j<T.length→(List.set (T++[none]) T.length X)[j]?=T[j]?:=fun X j hj=>by rw [Aag,if_neg (by omega),List.getElem?_append_left hj]
   have hV:∀ j,j<T.length→(T++[none])[j]?=T[j]?:=fun j hj=>List.getElem?_append_left hj
   rcases hvT with rfl | ⟨b,hb2,rfl,hb4⟩
   ·refine Aad (Aaa 2 rfl ?_);refine Aae (AaG rfl t0 rfl (Nat.le_of_ble_eq_true rfl) rfl) rfl rfl rfl rfl ?_
    refine Aae (o_slice_imm (k:=1) rfl rfl (by simp;omega) ?_) rfl rfl rfl rfl ?_
    ·cases A with
     | nil=>simp at hA;omega
     | cons a A=>cases A<;>rfl
    rw [hd1]
    by_cases h1:A.drop 1=[]
    ·rw [h1]
     refine Abh (o_append_none rfl rfl rfl rfl) rfl rfl rfl rfl ?_
     refine Aaa 1 rfl (Aac ?_)
     exact⟨.nils,by (repeat' (first | exact Aan | refine Aah rfl ?_)),AgX,by rw [hV _ (by omega)];exact t0,by rw [hV _ tl];exact t1,fun j hj=>by rw [hV _ (by omega)];exact t2 j hj⟩
    ·refine Abh (AcR (rows:=rowsR (A.drop 1)) rfl rfl (by cases hc:A.drop 1<;>rfl) (fun e=>h1 (List.map_eq_nil_iff.1 e)) (by simp;omega)) rfl rfl rfl rfl ?_
     refine Aaa 1 rfl (Aac ?_)
     exact⟨_,by (repeat' (first | exact Aan | refine Aah rfl ?_)),.inr ⟨fun e=>h1 (List.map_eq_nil_iff.1 e),T.length,by omega,rfl,by rw [Aag,if_pos ⟨rfl,by simp⟩]⟩,by rw [hU _ _ (by omega)];exact t0,by rw [hU _ _ tl];exact t1,fun j hj=>by rw [hU _ _ (by omega)];exact t2 j hj⟩
   ·refine Aad (Aaa 2 rfl ?_);refine Aae (AaG rfl t0 rfl (Nat.le_of_ble_eq_true rfl) rfl) rfl rfl rfl rfl ?_
    refine Aae (AcI rfl hb4 (by simp) (Aby rfl) Aef (by simp;omega) (by simp)) rfl rfl rfl rfl ?_
    have ht:((rowsR A).drop 1).take ((rowsR A).length - 1)=rowsR (A.drop 1):=by rw [hd1,List.take_of_length_le (by simp)]
    by_cases h1:A.drop 1=[]
    ·refine Abh (o_append_noneV rfl rfl (by rw [hV _ (List.getElem?_eq_some_iff.1 hb4).1];exact hb4) (by simp;omega) (by rw [ht,h1];rfl)) rfl rfl rfl rfl ?_
     refine Aaa 1 rfl (Aac ?_)
     rw [h1]
     exact⟨.nils,by (repeat' (first | exact Aan | refine Aah rfl ?_)),AgX,by rw [hV _ (by omega)];exact t0,by rw [hV _ tl];exact t1,fun j hj=>by rw [hV _ (by omega)];exact t2 j hj⟩
    ·refine Abh (o_append_nilsV (new:=rowsR (A.drop 1)) rfl rfl (by rw [hV _ (List.getElem?_eq_some_iff.1 hb4).1];exact hb4) (by simp;omega) ht (fun e=>h1 (List.map_eq_nil_iff.1 e)) (by simp;omega)) rfl rfl rfl rfl ?_
     refine Aaa 1 rfl (Aac ?_)
     exact⟨_,by (repeat' (first | exact Aan | refine Aah rfl ?_)),.inr ⟨fun e=>h1 (List.map_eq_nil_iff.1 e),T.length,by omega,rfl,by rw [Aag,if_pos ⟨rfl,by simp⟩]⟩,by rw [hU _ _ (by omega)];exact t0,by rw [hU _ _ tl];exact t1,fun j hj=>by rw [hU _ _ (by omega)];exact t2 j hj⟩
  ·rintro v1 U ⟨hv1,u0,u1,u2⟩
   have ul:=(List.getElem?_eq_some_iff.1 u1).1
   refine Aab (Aad ?_);refine Aae (Abd rfl) rfl rfl rfl rfl ?_;refine Aaa 1 rfl ?_
   refine Aae (AaG rfl u0 rfl (Nat.le_of_ble_eq_true rfl) rfl) rfl rfl rfl rfl ?_;refine Aap rfl rfl (hb) rfl rfl rfl rfl rfl rfl ?_
   refine Aae (AaU rfl rfl rfl) rfl rfl rfl rfl ?_
   refine tl_acc rfl rfl hv1 rfl (by simp) rfl (by simp;omega) (by omega) rfl rfl fun v2 V hv2 _ hk2=>?_
   have w0:=(hk2 S.length (by omega)).trans u0
   have w1:=(hk2 (S.length+1) (by omega)).trans u1
   have w2:∀ j,j<S.length→V[j]?=S[j]?:=fun j hj=>(hk2 j (by omega)).trans (u2 j hj)
   rw [←AdW] at hv2
   rcases hv2 with⟨_,e⟩ | ⟨_,b,hb2,rfl,hb4⟩
   ·exact absurd e (by simp)
   ·refine Aaa 1 rfl ?_;refine Aae (AaT rfl rfl w0 rfl rfl rfl rfl (Nat.le_of_ble_eq_true rfl) rfl) rfl rfl rfl rfl ?_;refine Aac ?_
    refine Aab (Aad ?_);refine Aae (AaG rfl (Aam w0) rfl (Nat.le_of_ble_eq_true rfl) rfl) rfl rfl rfl rfl ?_
    refine Aae (AaT rfl rfl (Aay (by omega) w1) rfl rfl rfl rfl (Nat.le_of_ble_eq_true rfl) rfl) rfl rfl rfl rfl ?_;refine Aac ?_
    have wl:=(List.getElem?_eq_some_iff.1 w1).1
    refine AaD ⟨.inr rfl,[.agg [n6 w,n6 h,n6 0,n6 y,.view b 0 (rowsR (A.drop 1++[List.replicate w 32])).length false]],loRes_c rfl (by rw [Aag,if_pos ⟨rfl,by simp;omega⟩];rfl) rfl,hk _ _ (fun j hj=>?_) (.inr ⟨b,by omega,rfl,?_⟩) rfl⟩
    ·rw [Aag,if_neg (by omega),Aag,if_neg (by omega)];exact w2 j hj
    ·rw [Aag,if_neg (by omega),Aag,if_neg (by omega)];exact hb4
end Go.Eng.Rf
namespace Go.Eng.Rf
open Go Go.Eng
variable [Inhabited GlobT]
attribute [local irreducible] OpR TL TD TC TS Aaz
theorem o_len_at {m:FM} {slot:Nat} {S S0:Store} {x:AOpd} {v:AVal} {rows:List (List AVal)} (hx:lo m x=some v) (h:AeG S0 v rows):OpR APr m slot S (.len false x) (.int .i64 (rows.length:Int)) S ([],[]):=by
 rcases h with rfl | ⟨b,_,rfl,_⟩
 ·exact o_len_imm hx
 ·exact o_len_view hx
theorem after_acc {U T:Store} {u u' v:AVal} {R rows:List (List AVal)} (hu:Acc 2 1 U u rows) (hsp:SepA u v) (hv:AeG U v R) (hl:2≤U.length)
 (k1:∀ j,j<U.length→(∀ off len full,u ≠ .view j off len full)→T[j]?=U[j]?) (k2:∀ j,j<U.length→∀ off len full,u' ≠ .view j off len full):T[0]?=U[0]?∧T[1]?=U[1]?∧AeG T v R∧SepA u' v:=by
 have hne:∀ j,j<2→∀ off len full,u ≠ .view j off len full:=fun j hj off len full e=>by
  rcases hu with⟨h,_⟩ | ⟨_,b,h2,h3,_⟩
  ·rw [h] at e;cases e
  ·rw [h3] at e;cases e;omega
 refine⟨k1 0 (by omega) (hne 0 (by omega)),k1 1 (by omega) (hne 1 (by omega)),?_,?_⟩
 ·rcases hv with h | ⟨b,h2,h3,h4⟩
  ·exact .inl h
  ·refine .inr ⟨b,h2,h3,?_⟩
   rw [k1 b (List.getElem?_eq_some_iff.1 h4).1 fun off len full e=>hsp b off len full e 0 R.length false h3];exact h4
 ·intro b o l f e o' l' f' e2
  rcases hv with h | ⟨b',h2,h3,h4⟩
  ·rw [h] at e2;cases e2
  ·rw [h3] at e2
   cases e2
   exact k2 b (List.getElem?_eq_some_iff.1 h4).1 o l f e
def Inv (w h x y:Nat) (L:List UInt8) (v:AVal) (U:Store):Prop :=
 U[0]?=some (some ⟨5,[[n6 w,n6 h,n6 x,n6 y,v]]⟩)∧U[1]?=some (some ⟨5,[zs .i64 4++[.nils]]⟩)∧AeG U v (rowsR (cut w h L))∧storable v=true
theorem rput_ok (w h x y:Nat) (L out:List UInt8) (hw:w≤80) (hh:h≤24) (hs:OkS w h (x,y,L)) (ho:out.length≤1000000) :
 Aaz APr f_r11_Put [docV w h x y (cut w h L),.str out] (docV w h (putP w h (x,y,L) out).1 (putP w h (x,y,L) out).2.1 (cut w h (putP w h (x,y,L) out).2.2)):=by
 have hw0:0<w:=by have:=hs.1;omega
 refine Aav (af:=c_r11_Put) rfl rfl ?_
 refine Aab (Aad (Aaa 2 rfl (Aac (Aab (Aab (Aad ?_))))))
 refine Aaa 1 rfl (Aac ?_)
 refine Aak (AaE (σ:=Nat × AVal) (fun s=>out.length - s.1) (fun s=>[(1,.str out),(2,.ptr 0 0 0),(4,.ptr 1 0 0),(5,n6 s.1)])
  (fun s S=>s.1≤out.length∧Inv w h (putP w h (x,y,L) (out.take s.1)).1 (putP w h (x,y,L) (out.take s.1)).2.1 (putP w h (x,y,L) (out.take s.1)).2.2 s.2 S) (0,.imm (rowsR (cut w h L))) (by (repeat' (first | exact Aan | refine Aah rfl ?_))) ⟨Nat.zero_le _,rfl,rfl,.inl rfl,rfl⟩ ?_)
 rintro⟨i,v⟩ S ⟨hi,h0,h1,hv,hsv⟩
 dsimp only at hi h0 h1 hv hsv ⊢
 refine Aab (Aab (Aad (Aaa 4 rfl (Aac ?_))))
 refine Aar rfl decide_eq_true_iff (fun c=>Aao ?_) (fun c=>AaA ?_)
 ·have hi':i<out.length:=by omega
  have hq:=AmY (out.take i) hs
  have hn:=putP_succ (w:=w) (h:=h) (s:=(x,y,L)) hi'
  generalize putP w h (x,y,L) (out.take i)=q at *
  obtain⟨x',y',L'⟩:=q
  obtain⟨q1,q2,q3⟩:=hq
  dsimp only at q1 q2 q3 h0 hv
  have hlt:=out[i].toNat_lt
  refine Aab ?_;refine Aak ?_;refine Aab (Aad (Aaa 2 rfl ?_));refine Aae (Adt rfl rfl (by omega)) rfl rfl rfl rfl ?_;refine Aaa 1 rfl (Aac ?_)
  have hsd:(32≤out[i].toNat∧out[i].toNat≤126)∨¬ (32≤out[i].toNat∧out[i].toNat≤126):=Decidable.em _
  refine tc_cut (σ:=AVal) (fun v=>[(1,.str out),(2,.ptr 0 0 0),(4,.ptr 1 0 0),(5,n6 i),(6,.int .u8 (out[i].toNat:Int))])
   (fun u U=>if 32≤out[i].toNat∧out[i].toNat≤126 then Inv w h (step w h (x',y',L') out[i]).1 (step w h (x',y',L') out[i]).2.1 (step w h (x',y',L') out[i]).2.2 u U else Inv w h x' y' L' u U) ?_ ?_
  ·rcases hsd with g | g
   ·refine Aab (Aad (Aaa 3 rfl ?_))
    rw [show decide ((out[i].toNat:Int)≥32)=true from decide_eq_true (by omega)]
    refine Aaa 3 rfl (Aac ?_)
    rw [show decide ((out[i].toNat:Int)≤126)=true from decide_eq_true (by omega)]
    refine AaI (t:=true) rfl (fun _=>?_) (fun h=>nomatch h);refine Aab (Aad (Aaa 1 rfl (Aac ?_)))
    refine Aab (Aab (Aad (Aaa 1 rfl ?_)))
    refine Aae (AaG rfl h0 rfl (Nat.le_of_ble_eq_true rfl) rfl) rfl rfl rfl rfl ?_
    refine Aae (o_len_at rfl hv) rfl rfl rfl rfl ?_
    refine Aaa 1 rfl (Aac ?_)
    have hml:(rowsR (cut w h L')).length=h:=by rw [List.length_map,AgQ]
    rw [hml]
    obtain⟨L2,hL2⟩:∃ L2,L'.set (y'*w+x') out[i]=L2:=⟨_,rfl⟩
    have hl2:L2.length=w*h:=by rw [←hL2];simpa using q3
    refine Aak (AaE (σ:=Nat × AVal) (fun s=>h - s.1) (fun s=>[(1,.str out),(2,.ptr 0 0 0),(4,.ptr 1 0 0),(5,n6 i),(6,.int .u8 (out[i].toNat:Int)),(7,s.2),(26,v),(27,n6 h),(28,n6 s.1)])
     (fun s U=>s.1≤h∧U[0]?=some (some ⟨5,[[n6 w,n6 h,n6 x',n6 y',v]]⟩)∧U[1]?=some (some ⟨5,[zs .i64 4++[.nils]]⟩)∧AeG U v (rowsR (cut w h L'))∧Acc 2 1 U s.2 (rowsR (cut w s.1 L2))∧SepA s.2 v) (0,.nils) (by (repeat' (first | exact Aan | refine Aah rfl ?_))) ⟨Nat.zero_le _,h0,h1,hv,AgX,fun b o l f e=>by cases e⟩ ?_)
    rintro⟨j,u⟩ U ⟨hj,h0,h1,hv,hu,hsp⟩
    dsimp only at hj h0 h1 hv hu hsp ⊢
    refine Aab (Aad (Aaa 1 rfl (Aac (Aab ?_))))
    refine Aar rfl decide_eq_true_iff (fun c=>Aao ?_) (fun c=>AaA ?_)
    ·have hj':j<h:=by omega
     have hul:=(List.getElem?_eq_some_iff.1 h1).1
     have hrl:=row_len q3 hj'
     refine Aab ?_;refine Aak ?_;refine Aab (Aad (Aaa 1 rfl ?_))
     refine tl_row hv rfl rfl (cut_get L' hj') (by decide) (by decide) fun p=>?_
     refine Aaa 2 rfl (Aac (Aab (Aab (Aad (Aaa 2 rfl ?_)))))
     refine Aae (AaG rfl h0 rfl (Nat.le_of_ble_eq_true rfl) rfl) rfl rfl rfl rfl ?_;refine Aaa 1 rfl (Aac ?_)
     refine Aar rfl beq_iff_eq (fun g2=>?_) (fun g2=>Aao ?_)
     ·have hjy:j=y':=by omega
      subst hjy
      refine AaH rfl ?_;refine Aal 2 rfl ?_;refine Aai rfl rfl (AaG rfl h0 rfl (Nat.le_of_ble_eq_true rfl) rfl) ?_
      refine Aai rfl rfl (Aft rfl rfl (by omega)) ?_;refine Aal 3 rfl ?_;refine Aai rfl rfl (Aax (b:=1) rfl rfl (by omega)) ?_
      refine Aai rfl rfl (Ahk rfl (Aby rfl) (Aby rfl) (by omega) (by omega)) ?_;refine Aai rfl rfl (AdD rfl rfl (by simp;omega)) ?_
      refine Aal 2 rfl ?_;refine Aai rfl rfl (AaG rfl h0 rfl (Nat.le_of_ble_eq_true rfl) rfl) ?_
      refine Aai rfl rfl (Aax (b:=1) rfl rfl (by omega)) ?_;refine Aai rfl rfl (o_sliceL rfl rfl (by omega)) ?_
      refine Aai rfl rfl (AdD rfl rfl (by simp;omega)) ?_;refine Aal 1 rfl (AaQ ?_);refine⟨rfl,?_⟩;refine Aad ?_
      refine Aae (Abd rfl) rfl rfl rfl rfl ?_;refine Aaa 1 rfl ?_;refine Aae (AaU rfl rfl rfl) rfl rfl rfl rfl ?_
      rw [show (out.take (i+1)).drop i=[out[i]] by rw [List.drop_take,Nat.add_sub_cancel_left,List.drop_eq_getElem_cons hi'];rfl,←row_set_eq q1 hj' q3,hL2]
      refine tl_accP rfl rfl hu rfl (by simp) rfl (by simp [cut];omega) (by omega) rfl rfl fun u' T hu' k1 k2=>?_
      obtain⟨z0,z1,z2,z3⟩:=after_acc hu hsp hv (by omega) k1 k2
      rw [←AdW,←AjC] at hu'
      refine Aae (Abd rfl) rfl rfl rfl rfl ?_;refine Aac (Aad ?_);refine Aae (Aax (b:=1) rfl rfl (by omega)) rfl rfl rfl rfl ?_
      refine Aaa 1 rfl (Aac ?_)
      exact⟨(j+1,u'),by omega,by (repeat' (first | exact Aan | refine Aah rfl ?_)),by omega,z0.trans h0,z1.trans h1,z2,hu',z3⟩
     ·have e1:AhR w L' j=AhR w L2 j:=by rw [←hL2,row_set_ne q1 (by omega)]
      rw [e1]
      refine Aad ?_;refine Aae (Abd rfl) rfl rfl rfl rfl ?_;refine Aaa 1 rfl ?_;refine Aae (AaU rfl rfl rfl) rfl rfl rfl rfl ?_
      refine tl_accP rfl rfl hu rfl (by simp) rfl (by simp [cut];omega) (by omega) rfl rfl fun u' T hu' k1 k2=>?_
      obtain⟨z0,z1,z2,z3⟩:=after_acc hu hsp hv (by omega) k1 k2
      rw [←AdW,←AjC] at hu'
      refine Aae (Abd rfl) rfl rfl rfl rfl ?_;refine Aac (Aad ?_);refine Aae (Aax (b:=1) rfl rfl (by omega)) rfl rfl rfl rfl ?_
      refine Aaa 1 rfl (Aac ?_)
      exact⟨(j+1,u'),by omega,by (repeat' (first | exact Aan | refine Aah rfl ?_)),by omega,z0.trans h0,z1.trans h1,z2,hu',z3⟩
    ·have:j=h:=by omega
     subst this
     have hul:=(List.getElem?_eq_some_iff.1 h1).1
     rcases hu with⟨_,e⟩ | ⟨_,b,hb2,rfl,hb4⟩
     ·have:=congrArg List.length e
      rw [List.length_map,AgQ] at this
      simp at this;omega
     refine Aab (Aad (Aaa 2 rfl ?_))
     refine Aae (AaT rfl rfl h0 rfl rfl rfl rfl (Nat.le_of_ble_eq_true rfl) rfl) rfl rfl rfl rfl ?_;refine Aac (Aab ?_)
     refine Aad (Aaa 1 rfl ?_);refine Aae (AaG rfl (Aam h0) rfl (Nat.le_of_ble_eq_true rfl) rfl) rfl rfl rfl rfl ?_
     refine Aae (Aax (b:=1) rfl rfl (by omega)) rfl rfl rfl rfl ?_;refine Aaa 1 rfl ?_
     refine Aae (AaT rfl rfl (Aam h0) rfl rfl rfl rfl (Nat.le_of_ble_eq_true rfl) rfl) rfl rfl rfl rfl ?_;refine Aac (Aab ?_)
     refine Aad (Aaa 1 rfl ?_);refine Aae (AaG rfl (Aam (Aam h0)) rfl (Nat.le_of_ble_eq_true rfl) rfl) rfl rfl rfl rfl ?_
     refine Aaa 1 rfl ?_;refine Aae (AaG rfl (Aam (Aam h0)) rfl (Nat.le_of_ble_eq_true rfl) rfl) rfl rfl rfl rfl ?_
     refine Aaa 1 rfl (Aac ?_)
     generalize hT:(List.set _ 0 _:Store)=T
     have t0:T[0]?=some (some ⟨5,[[n6 w,n6 j,n6 (x'+1),n6 y',.view b 0 (rowsR (cut w j L2)).length false]]⟩):=by rw [←hT,Aag,if_pos ⟨rfl,by simp;omega⟩];rfl
     have t1:T[1]?=some (some ⟨5,[zs .i64 4++[.nils]]⟩):=by rw [←hT,Aag,if_neg (by omega),Aag,if_neg (by omega)];exact h1
     have t2:AeG T (.view b 0 (rowsR (cut w j L2)).length false) (rowsR (cut w j L2)) := .inr ⟨b,hb2,rfl,by rw [←hT,Aag,if_neg (by omega),Aag,if_neg (by omega)];exact hb4⟩
     clear hT hb4
     have tl0:=(List.getElem?_eq_some_iff.1 t0).1
     have tl1:=(List.getElem?_eq_some_iff.1 t1).1
     generalize AVal.view b 0 (rowsR (cut w j L2)).length false=u at *
     have hsu:storable u=true:=by rcases t2 with rfl | ⟨_,_,rfl,_⟩<;>rfl
     refine Aar rfl beq_iff_eq (fun g3=>?_) (fun g3=>Aao ?_)
     ·have hst:step w j (x',y',L') out[i]=(0,down w j y' L2):=by
       unfold step;rw [if_pos g,if_neg (by omega),hL2]
      refine Aad ?_;refine Aae (AaG rfl t0 rfl (Nat.le_of_ble_eq_true rfl) rfl) rfl rfl rfl rfl ?_
      refine tl_down t2 rfl (by decide) rfl hw hh (AgQ w j L2) q2 (by omega) fun v' V k1 k2 k3=>?_
      rw [cut_downA hl2 q2] at k2 ⊢
      have w0:=(k1 0 (by omega)).trans t0
      have w1:=(k1 1 (by omega)).trans t1
      have wl0:=(List.getElem?_eq_some_iff.1 w0).1
      refine Aae (AaT (r:=[n6 w,n6 j,n6 (x'+1),n6 y',u]) (cs:=[n6 w,n6 j,n6 0,n6 (down w j y' L2).1,v']) rfl rfl w0 rfl rfl rfl rfl (by simp) (by rw [st5];exact k3)) rfl rfl rfl rfl ?_
      refine Aac ?_
      refine⟨v',by (repeat' (first | exact Aan | refine Aah rfl ?_)),?_⟩
      rw [if_pos g,hst]
      exact⟨by rw [Aag,if_pos ⟨rfl,wl0⟩];rfl,by rw [Aag,if_neg (by omega)];exact w1,k2.other fun j hj _=>by rw [Aag,if_neg (by omega)],k3⟩
     ·have hst:step w j (x',y',L') out[i]=(x'+1,y',L2):=by
       unfold step;rw [if_pos g,if_pos (by omega),hL2]
      refine⟨u,by (repeat' (first | exact Aan | refine Aah rfl ?_)),?_⟩
      rw [if_pos g,hst]
      exact⟨t0,t1,t2,hsu⟩
   ·refine Aab (Aad (Aaa 3 rfl ?_))
    by_cases g1:32≤out[i].toNat
    ·rw [show decide ((out[i].toNat:Int)≥32)=true from decide_eq_true (by omega)]
     refine Aaa 3 rfl (Aac ?_)
     rw [show decide ((out[i].toNat:Int)≤126)=false from decide_eq_false (by omega)]
     refine AaI (t:=false) rfl (fun h=>nomatch h) (fun _=>?_);refine Aao ?_
     exact⟨v,by (repeat' (first | exact Aan | refine Aah rfl ?_)),by rw [if_neg g];exact⟨h0,h1,hv,hsv⟩⟩
    ·rw [show decide ((out[i].toNat:Int)≥32)=false from decide_eq_false (by omega)]
     refine Aaa 3 rfl (Aac ?_);refine AaI (t:=false) rfl (fun h=>nomatch h) (fun _=>?_);refine Aao ?_
     exact⟨v,by (repeat' (first | exact Aan | refine Aah rfl ?_)),by rw [if_neg g];exact⟨h0,h1,hv,hsv⟩⟩
  ·intro u U hU
   rcases hsd with g | g
   ·rw [if_pos g,←hn] at hU
    refine Aab (Aab (Aad (Aaa 2 rfl (Aac ?_))))
    rw [show ((out[i].toNat:Int) == 10)=false from beq_false_of_ne (by omega)]
    refine AaI (t:=false) rfl (fun h=>nomatch h) (fun _=>?_);refine Aao (Aab (Aab (Aad ?_)))
    refine Aaa 2 rfl (Aac ?_)
    rw [show ((out[i].toNat:Int) == 13)=false from beq_false_of_ne (by omega)]
    refine AaI (t:=false) rfl (fun h=>nomatch h) (fun _=>?_);refine Aao (Aab (Aab (Aad ?_)))
    refine Aaa 3 rfl ?_
    rw [show ((out[i].toNat:Int) == 8)=false from beq_false_of_ne (by omega)]
    refine Aaa 4 rfl (Aac ?_);refine AaI (t:=false) rfl (fun h=>nomatch h) (fun _=>?_);refine Aao (Aab ?_)
    refine Aad (Aaa 2 rfl (Aac ?_))
    rw [show ((out[i].toNat:Int) == 12)=false from beq_false_of_ne (by omega)]
    refine AaI (t:=false) rfl (fun h=>nomatch h) (fun _=>?_);refine Aao (Aad (Aaa 1 rfl ?_))
    refine Aae (Aax (b:=1) rfl rfl (by omega)) rfl rfl rfl rfl ?_;refine Aaa 1 rfl (Aac ?_)
    exact⟨(i+1,u),by omega,by (repeat' (first | exact Aan | refine Aah rfl ?_)),by omega,hU⟩
   ·rw [if_neg g] at hU
    obtain⟨h0,h1,hv,hsv⟩:=hU
    refine Aab (Aab (Aad (Aaa 2 rfl (Aac ?_))))
    refine Aar rfl beq_iff_eq (fun g2=>?_) (fun g2=>Aao ?_)
    ·have hst:putP w h (x,y,L) (out.take (i+1))=(0,down w h y' L'):=by
      rw [hn];unfold step;rw [if_neg g,if_neg (by omega),if_neg (by omega),if_neg (by omega),if_pos (by omega)]
     refine Aad ?_;refine Aae (AaG rfl h0 rfl (Nat.le_of_ble_eq_true rfl) rfl) rfl rfl rfl rfl ?_
     have hul:=(List.getElem?_eq_some_iff.1 h1).1
     refine tl_down hv rfl (by decide) rfl hw hh (AgQ w h L') q2 (by omega) fun v' T k1 k2 k3=>?_
     rw [cut_downA q3 q2] at k2 ⊢
     have t0:=(k1 0 (by omega)).trans h0
     have t1:=(k1 1 (by omega)).trans h1
     have tl0:=(List.getElem?_eq_some_iff.1 t0).1
     refine Aae (AaT (r:=[n6 w,n6 h,n6 x',n6 y',u]) (cs:=[n6 w,n6 h,n6 0,n6 (down w h y' L').1,v']) rfl rfl t0 rfl rfl rfl rfl (by simp) (by rw [st5];exact k3)) rfl rfl rfl rfl ?_
     generalize hT:(List.set T 0 _:Store)=T2
     have hi2:Inv w h 0 (down w h y' L').1 (down w h y' L').2 v' T2:=by
      rw [←hT]
      exact⟨by rw [Aag,if_pos ⟨rfl,tl0⟩];rfl,by rw [Aag,if_neg (by omega)];exact t1,k2.other fun j hj _=>by rw [Aag,if_neg (by omega)],k3⟩
     clear hT
     refine Aac (Aab (Aab (Aad (Aaa 2 rfl (Aac ?_)))))
     rw [show ((out[i].toNat:Int) == 13)=false from beq_false_of_ne (by omega)]
     refine AaI (t:=false) rfl (fun h=>nomatch h) (fun _=>?_);refine Aao (Aab (Aab (Aad ?_)))
     refine Aaa 3 rfl ?_
     rw [show ((out[i].toNat:Int) == 8)=false from beq_false_of_ne (by omega)]
     refine Aaa 4 rfl (Aac ?_);refine AaI (t:=false) rfl (fun h=>nomatch h) (fun _=>?_);refine Aao (Aab ?_)
     refine Aad (Aaa 2 rfl (Aac ?_))
     rw [show ((out[i].toNat:Int) == 12)=false from beq_false_of_ne (by omega)]
     refine AaI (t:=false) rfl (fun h=>nomatch h) (fun _=>?_);refine Aao (Aad (Aaa 1 rfl ?_))
     refine Aae (Aax (b:=1) rfl rfl (by omega)) rfl rfl rfl rfl ?_;refine Aaa 1 rfl (Aac ?_)
     refine⟨(i+1,v'),by omega,by (repeat' (first | exact Aan | refine Aah rfl ?_)),by omega,?_⟩
     rw [hst]
     exact hi2
    refine Aab (Aab (Aad (Aaa 2 rfl (Aac ?_))))
    refine Aar rfl beq_iff_eq (fun g3=>?_) (fun g3=>Aao ?_)
    ·have hst:putP w h (x,y,L) (out.take (i+1))=(0,y',L'):=by
      rw [hn];unfold step;rw [if_neg g,if_pos (by omega)]
     have tl0:=(List.getElem?_eq_some_iff.1 h0).1
     refine Aad (Aaa 1 rfl ?_);refine Aae (AaT rfl rfl h0 rfl rfl rfl rfl (Nat.le_of_ble_eq_true rfl) rfl) rfl rfl rfl rfl ?_
     refine Aac (Aab (Aab (Aad (Aaa 3 rfl ?_))))
     rw [show ((out[i].toNat:Int) == 8)=false from beq_false_of_ne (by omega)]
     refine Aaa 4 rfl (Aac ?_);refine AaI (t:=false) rfl (fun h=>nomatch h) (fun _=>?_);refine Aao (Aab ?_)
     refine Aad (Aaa 2 rfl (Aac ?_))
     rw [show ((out[i].toNat:Int) == 12)=false from beq_false_of_ne (by omega)]
     refine AaI (t:=false) rfl (fun h=>nomatch h) (fun _=>?_);refine Aao (Aad (Aaa 1 rfl ?_))
     refine Aae (Aax (b:=1) rfl rfl (by omega)) rfl rfl rfl rfl ?_;refine Aaa 1 rfl (Aac ?_)
     refine⟨(i+1,u),by omega,by (repeat' (first | exact Aan | refine Aah rfl ?_)),by omega,?_⟩
     rw [hst]
     exact⟨by rw [Aag,if_pos ⟨rfl,tl0⟩];rfl,by rw [Aag,if_neg (by omega)];exact h1,hv.other fun j hj _=>by rw [Aag,if_neg (by omega)],hsv⟩
    refine Aab (Aab (Aad (Aaa 3 rfl ?_)))
    by_cases g4:out[i].toNat=8
    ·have hst:putP w h (x,y,L) (out.take (i+1))=(x' - 1,y',L'):=by
      rw [hn];unfold step;rw [if_neg g,if_neg (by omega),if_pos (by omega)]
     have tl0:=(List.getElem?_eq_some_iff.1 h0).1
     rw [show ((out[i].toNat:Int) == 8)=true from beq_iff_eq.2 (by omega)]
     refine Aaa 1 rfl ?_;refine Aae (AaG rfl h0 rfl (Nat.le_of_ble_eq_true rfl) rfl) rfl rfl rfl rfl ?_;refine Aaa 2 rfl (Aac ?_)
     refine Aar rfl decide_eq_true_iff (fun g5=>?_) (fun g5=>Aao ?_)
     ·refine Aad (Aaa 1 rfl ?_);refine Aae (AaG rfl h0 rfl (Nat.le_of_ble_eq_true rfl) rfl) rfl rfl rfl rfl ?_
      refine Aae (AbQ (b:=1) rfl rfl (by omega) (by omega)) rfl rfl rfl rfl ?_;refine Aaa 1 rfl ?_
      refine Aae (AaT rfl rfl h0 rfl rfl rfl rfl (Nat.le_of_ble_eq_true rfl) rfl) rfl rfl rfl rfl ?_;refine Aac (Aab ?_)
      refine Aad (Aaa 2 rfl (Aac ?_))
      rw [show ((out[i].toNat:Int) == 12)=false from beq_false_of_ne (by omega)]
      refine AaI (t:=false) rfl (fun h=>nomatch h) (fun _=>?_);refine Aao (Aad (Aaa 1 rfl ?_))
      refine Aae (Aax (b:=1) rfl rfl (by omega)) rfl rfl rfl rfl ?_;refine Aaa 1 rfl (Aac ?_)
      refine⟨(i+1,u),by omega,by (repeat' (first | exact Aan | refine Aah rfl ?_)),by omega,?_⟩
      rw [hst]
      exact⟨by rw [Aag,if_pos ⟨rfl,tl0⟩];rfl,by rw [Aag,if_neg (by omega)];exact h1,hv.other fun j hj _=>by rw [Aag,if_neg (by omega)],hsv⟩
     ·refine Aab (Aad (Aaa 2 rfl (Aac ?_)))
      rw [show ((out[i].toNat:Int) == 12)=false from beq_false_of_ne (by omega)]
      refine AaI (t:=false) rfl (fun h=>nomatch h) (fun _=>?_);refine Aao (Aad (Aaa 1 rfl ?_))
      refine Aae (Aax (b:=1) rfl rfl (by omega)) rfl rfl rfl rfl ?_;refine Aaa 1 rfl (Aac ?_)
      refine⟨(i+1,u),by omega,by (repeat' (first | exact Aan | refine Aah rfl ?_)),by omega,?_⟩
      rw [hst,show x' - 1=x' by omega]
      exact⟨h0,h1,hv,hsv⟩
    rw [show ((out[i].toNat:Int) == 8)=false from beq_false_of_ne (by omega)]
    refine Aaa 4 rfl (Aac ?_);refine AaI (t:=false) rfl (fun h=>nomatch h) (fun _=>?_);refine Aao (Aab ?_)
    refine Aad (Aaa 2 rfl (Aac ?_))
    refine Aar rfl beq_iff_eq (fun g5=>?_) (fun g5=>Aao ?_)
    ·have hst:putP w h (x,y,L) (out.take (i+1))=(0,0,List.replicate (w*h) 32):=by
      rw [hn];unfold step;rw [if_neg g,if_neg (by omega),if_neg (by omega),if_pos (by omega)]
     have hnw:=rnew_ok w h hw (by omega) hh
     rw [cut_blank] at hnw
     have tl0:=(List.getElem?_eq_some_iff.1 h0).1
     refine Aad (Aaa 1 rfl ?_);refine Aae (AaG rfl h0 rfl (Nat.le_of_ble_eq_true rfl) rfl) rfl rfl rfl rfl ?_;refine Aaa 1 rfl ?_
     refine Aae (AaG rfl h0 rfl (Nat.le_of_ble_eq_true rfl) rfl) rfl rfl rfl rfl ?_;refine Aap rfl rfl (hnw) rfl rfl rfl rfl rfl rfl ?_
     refine Aae (AaT rfl rfl h0 rfl rfl rfl rfl (Nat.le_of_ble_eq_true rfl) rfl) rfl rfl rfl rfl ?_;refine Aac (Aad ?_)
     refine Aaa 1 rfl ?_;refine Aae (Aax (b:=1) rfl rfl (by omega)) rfl rfl rfl rfl ?_;refine Aaa 1 rfl (Aac ?_)
     refine⟨(i+1,.imm (rowsR (cut w h (List.replicate (w*h) 32)))),by omega,by (repeat' (first | exact Aan | refine Aah rfl ?_)),by omega,?_⟩
     rw [hst]
     exact⟨by rw [Aag,if_pos ⟨rfl,tl0⟩];rfl,by rw [Aag,if_neg (by omega)];exact h1,.inl rfl,rfl⟩
    ·have hst:putP w h (x,y,L) (out.take (i+1))=(x',y',L'):=by
      rw [hn];unfold step;rw [if_neg g,if_neg (by omega),if_neg (by omega),if_neg (by omega),if_neg (by omega)]
     refine Aad (Aaa 1 rfl ?_);refine Aae (Aax (b:=1) rfl rfl (by omega)) rfl rfl rfl rfl ?_;refine Aaa 1 rfl ?_
     refine Aac ?_
     refine⟨(i+1,u),by omega,by (repeat' (first | exact Aan | refine Aah rfl ?_)),by omega,?_⟩
     rw [hst]
     exact⟨h0,h1,hv,hsv⟩
 ·have:i=out.length:=by omega
  subst this
  rw [List.take_length] at h0 hv
  have hul:=(List.getElem?_eq_some_iff.1 h1).1
  refine Aab (Aad ?_);refine Aae (AaG rfl h0 rfl (Nat.le_of_ble_eq_true rfl) rfl) rfl rfl rfl rfl ?_
  refine Aae (AaT (r:=zs .i64 4++[.nils]) (cs:=[n6 w,n6 h,n6 (putP w h (x,y,L) out).1,n6 (putP w h (x,y,L) out).2.1,v]) rfl rfl h1 rfl rfl rfl rfl (by simp) (by rw [st5];exact hsv)) rfl rfl rfl rfl ?_
  refine Aac ?_
  exact AaD (retd_doc rfl (by rw [Aag,if_pos ⟨rfl,hul⟩];rfl) (hv.other fun j hj _=>by rw [Aag,if_neg (by omega)]))
end Go.Eng.Rf
namespace Go.Eng.Rf
open Go Go.Eng
variable [Inhabited GlobT]
attribute [local irreducible] OpR TL TD TC TS Aaz
def edgeP (w:Nat):List UInt8:=[43]++List.replicate w 45++[43]
def barP (r:List UInt8):List UInt8:=[124]++r++[124]
def Afd (w h:Nat) (L:List UInt8):List (List UInt8):=[edgeP w]++(cut w h L).map barP++[edgeP w]
theorem frame_ok (w h x y:Nat) (L:List UInt8) (hw:w≤80) (h0:1≤h) (hh:h≤24) (hL:L.length=w*h):Aaz APr AeM [scrV w h x y L] (.imm (rowsR (Afd w h L))):=by
 have r1:=size_ok w h x y L
 have r2:=rep_ok 45 w (by omega)
 have r3:=rows_ok w h x y L hw hh hL
 refine Aav (af:=AeR) rfl rfl ?_
 refine Aab (Aad (Aaa 2 rfl (Aac (Aab (Aad (Aaa 1 rfl ?_))))))
 refine Aap rfl rfl (r1) rfl rfl rfl rfl rfl rfl ?_;refine Aaa 5 rfl (Aac (Aab (Aad ?_)))
 refine Aaa 1 rfl ?_;refine Aap rfl rfl (r2) rfl rfl rfl rfl rfl rfl ?_;refine Aae (AdD rfl rfl (by simp;omega)) rfl rfl rfl rfl ?_
 refine Aae (AdD rfl rfl (by simp;omega)) rfl rfl rfl rfl ?_;refine Aaa 1 rfl (Aac (Aab (Aad ?_)))
 refine Aaa 1 rfl ?_;refine Aae (AaU rfl rfl rfl) rfl rfl rfl rfl ?_;refine Aaa 1 rfl (Aac (Aab ?_))
 refine Aab (Aad (Aaa 1 rfl ?_));refine Aap rfl rfl (r3) rfl rfl rfl rfl rfl rfl ?_;refine Aaa 2 rfl ?_
 refine Aac ?_
 rw [show [(43:UInt8)]++List.replicate w 45++[43]=edgeP w from rfl,show (rowsR (cut w h L)).length=h by rw [List.length_map,AgQ]]
 refine Aak (AaE (σ:=Nat × AVal) (fun s=>h - s.1) (fun s=>[(2,.nils),(5,.str (edgeP w)),(6,s.2),(21,.imm (rowsR (cut w h L))),(22,n6 h),(23,n6 s.1)])
  (fun s S=>s.1≤h∧1≤S.length∧AccL 1 1 S s.2 (rowsR ([edgeP w]++(cut w s.1 L).map barP))) (0,.lim [[.str (edgeP w)]]) (by (repeat' (first | exact Aan | refine Aah rfl ?_))) ⟨Nat.zero_le _,by simp,.inl rfl⟩ ?_)
 rintro⟨i,v⟩ S ⟨hi,hS,hv⟩
 dsimp only at hi hS hv ⊢
 refine Aab (Aad (Aaa 1 rfl (Aac (Aab ?_))))
 refine Aar rfl decide_eq_true_iff (fun c=>Aao ?_) (fun c=>AaA ?_)
 ·have hi':i<h:=by omega
  have hg:(rowsR (cut w h L))[i]?=some [.str (AhR w L i)]:=by rw [List.getElem?_map,cut_get L hi'];rfl
  refine Aab ?_;refine Aak ?_;refine Aab (Aad ?_)
  refine Aae (Ack rfl rfl hg rfl) rfl rfl rfl rfl ?_
  refine Aaa 2 rfl (Aac (Aad ?_));refine Aae (Abd rfl) rfl rfl rfl rfl ?_;refine Aaa 1 rfl ?_
  refine Aae (AdD rfl rfl (by simp;omega)) rfl rfl rfl rfl ?_;refine Aae (AdD rfl rfl (by simp;omega)) rfl rfl rfl rfl ?_
  refine Aae (AaU rfl rfl rfl) rfl rfl rfl rfl ?_
  refine tl_accL rfl rfl hv rfl (by simp) rfl (by simp [cut];omega) hS rfl rfl rfl fun v' S' hv' hk=>?_
  rw [show rowsR ([edgeP w]++(cut w i L).map barP)++[[AVal.str ([124]++AhR w L i++[124])]]=rowsR ([edgeP w]++(cut w (i+1) L).map barP) by
   rw [←AdW,AjC,List.map_append,List.append_assoc];rfl] at hv'
  refine Aae (Abd rfl) rfl rfl rfl rfl ?_;refine Aac (Aad ?_);refine Aae (Aax (b:=1) rfl rfl (by omega)) rfl rfl rfl rfl ?_
  refine Aaa 1 rfl (Aac ?_)
  have hS':1≤S'.length:=by
   rcases hv' with⟨_,e⟩ | ⟨_,b,_,_,h4⟩
   ·exact absurd e (by simp)
   ·have:=(List.getElem?_eq_some_iff.1 h4).1;omega
  exact⟨(i+1,v'),by omega,by (repeat' (first | exact Aan | refine Aah rfl ?_)),by omega,hS',.inr hv'⟩
 ·have:i=h:=by omega
  subst this
  refine Aab (Aad ?_);refine Aae (Abd rfl) rfl rfl rfl rfl ?_;refine Aaa 1 rfl ?_
  refine Aae (AaU rfl rfl rfl) rfl rfl rfl rfl ?_
  refine tl_accL rfl rfl hv rfl (by simp) rfl (by simp [cut];omega) hS rfl rfl rfl fun v' S' hv' hk=>?_
  rw [←AdW] at hv'
  refine Aae (Abd rfl) rfl rfl rfl rfl ?_;refine Aac ?_
  exact AaD (retd rfl (hv'.frz (AkU _)))
theorem both_ok (W H:Nat) (out:List UInt8) (hW:W<256) (hH:H<256) (ho:out.length≤1000000):∃ w h x y L,w≤80∧1≤h∧h≤24∧OkS w h (x,y,L) ∧
 Aaz APr Akb [.agg [.int .u8 (W:Int),.int .u8 (H:Int),.str out]] (.tuple [scrV w h x y L,docV w h x y (cut w h L)]):=by
 have r1:=new_ok (1+W%80) (1+H%24) (by omega) (by omega) (by omega) (by omega)
 have hok:OkS (1+W%80) (1+H%24) (0,0,List.replicate ((1+W%80)*(1+H%24)) 32):=⟨by show 0<1+W%80;omega,by show 0<1+H%24;omega,by simp⟩
 have r2:=AkV (1+W%80) (1+H%24) 0 0 _ out (by omega) (by omega) hok ho
 have r3:=rnew_ok (1+W%80) (1+H%24) (by omega) (by omega) (by omega)
 have r4:=rput_ok (1+W%80) (1+H%24) 0 0 _ out (by omega) (by omega) hok ho
 rw [cut_blank] at r3
 have hp:=AmY out hok
 refine⟨1+W%80,1+H%24,(putP (1+W%80) (1+H%24) (0,0,List.replicate ((1+W%80)*(1+H%24)) 32) out).1,(putP (1+W%80) (1+H%24) (0,0,List.replicate ((1+W%80)*(1+H%24)) 32) out).2.1,(putP (1+W%80) (1+H%24) (0,0,List.replicate ((1+W%80)*(1+H%24)) 32) out).2.2,by omega,by omega,by omega,hp,?_⟩
 generalize putP (1+W%80) (1+H%24) (0,0,List.replicate ((1+W%80)*(1+H%24)) 32) out=q at *
 refine Aav (af:=AkC) rfl rfl ?_
 refine Aab (Aad (Aaa 3 rfl (Aac (Aab ?_))));refine AaH rfl ?_;refine Aal 2 rfl ?_
 refine Aai rfl rfl (Acj (b:=80) rfl rfl (by omega)) ?_;refine Aai rfl rfl (Ags rfl (Adp (by omega))) ?_
 refine Aai rfl rfl (Aax (a:=1) rfl rfl (by omega)) ?_;refine Aal 2 rfl ?_;refine Aai rfl rfl (Acj (b:=24) rfl rfl (by omega)) ?_
 refine Aai rfl rfl (Ags rfl (Adp (by omega))) ?_;refine Aai rfl rfl (Aax (a:=1) rfl rfl (by omega)) ?_;refine Aal 2 rfl ?_
 refine AaQ ?_;refine⟨rfl,?_⟩;refine Aab (Aad (Aaa 2 rfl ?_));refine Aap rfl rfl (r1) rfl rfl rfl rfl rfl rfl ?_
 refine Aaa 6 rfl (Aac (Aab ?_));refine Aeu ?_;refine Aes rfl ?_;refine Aal 3 rfl ?_
 refine AaS rfl rfl (r2) rfl rfl rfl rfl rfl ?_;refine Aal 2 rfl ?_;refine AaS rfl rfl (r3) rfl rfl rfl rfl rfl ?_;refine Aal 2 rfl ?_
 refine AaQ ?_;refine⟨rfl,?_⟩;refine AcF ?_
 refine Aap rfl (by simp [AVal.closed,AaC,AaX,AaL,Abe]) (r4) (by simp [AVal.noref,AVal.flat,norefL,Abn,AbZ,Acl]) rfl rfl rfl rfl rfl ?_
 refine Aac ?_;refine AcF ?_;refine Aaa 1 rfl (Aac ?_);refine AcF ?_;refine Aaa 1 rfl (Aac ?_)
 refine AkO ?_;exact AaD (retd rfl ⟨_,AaJ (by simp [one,AbA,AVal.closed,AaC,AaL,Abe])⟩)
theorem frame_inj {w h w' h':Nat} {L L':List UInt8} (h0:1≤h) (h0':1≤h') (hL:L.length=w*h) (hL':L'.length=w'*h') (e:Afd w h L=Afd w' h' L'):w=w'∧h=h'∧L=L':=by
 have e1:=congrArg List.length e
 simp only [Afd,List.length_append,List.length_map,AgQ,List.length_cons,List.length_nil] at e1
 have eh:h=h':=by omega
 subst eh
 have e2:edgeP w=edgeP w':=by
  have:=congrArg (fun z=>z.head?) e
  simpa [Afd] using this
 have e3:=congrArg List.length e2
 simp only [edgeP,List.length_append,List.length_replicate,List.length_cons,List.length_nil] at e3
 have ew:w=w':=by omega
 subst ew
 refine⟨rfl,rfl,?_⟩
 have e4:(cut w h L).map barP=(cut w h L').map barP:=by
  unfold Afd at e
  exact List.append_cancel_left (List.append_cancel_right e)
 have e5:cut w h L=cut w h L':=by
  refine List.map_inj_right (f:=barP) ?_ |>.1 e4
  intro a b hab
  unfold barP at hab
  exact List.append_cancel_left (List.append_cancel_right hab)
 refine List.ext_getElem? fun k=>?_
 rcases Nat.lt_or_ge k (w*h) with hk | hk
 ·have hw:0<w:=Nat.pos_of_ne_zero fun z=>by rw [z,Nat.zero_mul] at hk;omega
  have hj:k / w<h:=by rw [Nat.div_lt_iff_lt_mul hw,Nat.mul_comm];exact hk
  have e6:=congrArg (fun z=>z[k / w]?) e5
  simp only [cut_get L hj,cut_get L' hj,Option.some.injEq] at e6
  have e7:=congrArg (fun z=>z[k%w]?) e6
  have hm:=Nat.mod_lt k hw
  simp only [row_get (h:=h) hm] at e7
  rwa [Nat.mul_comm (k / w) w,Nat.div_add_mod] at e7
 ·rw [List.getElem?_eq_none (by omega),List.getElem?_eq_none (by omega)]
theorem frames_law (W H:Nat) (out:List UInt8) (W' H':Nat) (out':List UInt8) (hW:W<256) (hH:H<256) (hW':W'<256) (hH':H'<256) :
 Aaz APr Ajr [.agg [.int .u8 (W:Int),.int .u8 (H:Int),.str out],.agg [.int .u8 (W':Int),.int .u8 (H':Int),.str out']] (.bool true):=by
 refine Aav (af:=AcW) rfl rfl ?_
 refine Aab (Aad (Aaa 3 rfl (Aac (Aab (Aab (Aad ?_))))))
 refine Aaa 2 rfl (Aac ?_);refine AaI (t:=false) rfl (fun h=>nomatch h) (fun _=>?_);refine Aao (Aab ?_)
 refine Aab (Aad (Aaa 6 rfl ?_));refine Aae (o_maxn rfl rfl) rfl rfl rfl rfl ?_;refine Aaa 1 rfl (Aac ?_)
 by_cases z:1000<max out.length out'.length
 ·rw [show decide (((max out.length out'.length:Nat):Int)>1000)=true from decide_eq_true (by omega)]
  refine AaI (t:=true) rfl (fun _=>?_) (fun h=>nomatch h);refine Aab (Aad (Aaa 1 rfl (Aac ?_)))
  exact AaD (retd rfl ⟨_,AaJ rfl⟩)
 rw [show decide (((max out.length out'.length:Nat):Int)>1000)=false from decide_eq_false (by omega)]
 obtain⟨w,h,x,y,L,a1,a2,a3,a4,a5⟩:=both_ok W H out hW hH (by omega)
 obtain⟨w',h',x',y',L',b1,b2,b3,b4,b5⟩:=both_ok W' H' out' hW' hH' (by omega)
 have c1:=cursor_ok w h x y L
 have c2:=cursor_ok w' h' x' y' L'
 have d1:=frame_ok w h x y L a1 a2 a3 a4.2.2
 have d2:=frame_ok w' h' x' y' L' b1 b2 b3 b4.2.2
 have d3:=equal_ok (Afd w h L) (Afd w' h' L') (by simp [Afd,AgQ];omega)
 have d4:=same_ok w h x y w' h' x' y' L L'
 refine AaI (t:=false) rfl (fun h=>nomatch h) (fun _=>?_);refine Aao (Aab (Aad (Aaa 1 rfl ?_)))
 refine Aap rfl rfl (a5) rfl rfl rfl rfl rfl rfl ?_;refine Aaa 7 rfl (Aac (Aab (Aad ?_)))
 refine Aaa 1 rfl ?_;refine Aap rfl rfl (b5) rfl rfl rfl rfl rfl rfl ?_;refine Aaa 7 rfl (Aac (Aab ?_))
 refine Aad (Aaa 1 rfl ?_);refine Aap rfl rfl (c1) rfl rfl rfl rfl rfl rfl ?_;refine Aaa 5 rfl (Aac ?_)
 refine Aab (Aad (Aaa 1 rfl ?_));refine Aap rfl rfl (c2) rfl rfl rfl rfl rfl rfl ?_;refine Aaa 5 rfl ?_
 refine Aac (Aab ?_);refine Aeu ?_;refine Aes rfl ?_;refine Aal 1 rfl ?_
 refine AaS rfl rfl (d1) rfl rfl rfl rfl rfl ?_;refine Aal 1 rfl (AaQ ?_);refine⟨rfl,?_⟩;refine AcF ?_
 refine Aap rfl rfl (d2) rfl rfl rfl rfl rfl rfl ?_;refine Aac ?_;refine AcF ?_
 refine Aap rfl (by simp [AVal.closed,AaC,AaX,AaL,Abe]) (d3) (by simp [AVal.noref,AVal.flat,norefL,Abn,AbZ,Acl]) rfl rfl rfl rfl rfl ?_
 refine Aac ?_;refine AcF ?_;refine Aaa 1 rfl (Aac ?_);refine AkO ?_;refine Aab (Aad ?_)
 refine Aaa 4 rfl ?_
 by_cases ex:x=x'
 ·rw [show ((x:Int) != (x':Int))=false by rw [ex];simp]
  refine Aaa 5 rfl ?_
  by_cases ey:y=y'
  ·rw [show ((y:Int) != (y':Int))=false by rw [ey];simp]
   have he:decide (w=w'∧h=h'∧x=x'∧y=y'∧L=L')=decide (Afd w h L=Afd w' h' L'):=by
    refine decide_eq_decide.2 ⟨?_,fun e=>?_⟩
    ·rintro⟨rfl,rfl,_,_,rfl⟩;rfl
    ·obtain⟨f1,f2,f3⟩:=frame_inj a2 b2 a4.2.2 b4.2.2 e
     exact⟨f1,f2,ex,ey,f3⟩
   rw [he] at d4
   refine Aaa 3 rfl ?_;refine Aap rfl rfl (d4) rfl rfl rfl rfl rfl rfl ?_;refine Aaa 3 rfl (Aac ?_)
   rw [if_neg Bool.false_ne_true,beq_self_eq_true (decide (Afd w h L=Afd w' h' L'))]
   exact AaD (retd rfl ⟨_,AaJ rfl⟩)
  ·rw [show ((y:Int) != (y':Int))=true from bne_iff_ne.2 (by omega)]
   refine Aaa 7 rfl (Aac ?_);exact AaD (retd rfl ⟨_,AaJ rfl⟩)
 ·rw [show ((x:Int) != (x':Int))=true from bne_iff_ne.2 (by omega)]
  refine Aaa 12 rfl (Aac ?_);exact AaD (retd rfl ⟨_,AaJ rfl⟩)
end Go.Eng.Rf
namespace Go.Eng.Rf
open Go Go.Eng Go.RowKit Go.ChangeShapes Go.WideShapes
variable [Inhabited GlobT]
theorem open_agg_rep {H:Type} {enc:TypeId × Value→H} {P:Program} {r:Reach} {b0:Nat} {t:TypeId} {fs:Array Field} {W:World} {sp:Nat→Bool} {v:Value} {d:DataW H} {ps:List MemPlace} (dd:Nat) (ss:List Shp) (ht:P.underlying t=some (.struct fs)) (hs:Aml P dd t=some ss)
 (hval:Value.okWide P W r b0 t v) (h:DataW.Trod enc P W 0 sp true t v d ps):∃ xs,Rep [] (fun _=>False) W (.agg xs) v∧AhF ss xs:=by
 obtain⟨cs,rfl,_⟩:=okWide_struct ht hval
 obtain⟨fuel,hf⟩:=h
 obtain⟨xs,h1,h2⟩:=opens_t dd fuel t _ _ _ hs hf
 have h1:RepV [] (fun _=>False) W xs cs.toList:=by simpa [Value.cells] using h1
 refine⟨xs,⟨cs,rfl,by simpa using h1.1.symm,Agn _ _ fun i a ha=>?_⟩,h2⟩
 have hi:i<cs.toList.length:=by
  rw [←h1.1];exact(List.getElem?_eq_some_iff.1 ha).1
 refine⟨cs.toList[i],by simp at hi ⊢,h1.2 i a _ ha (List.getElem?_eq_getElem hi)⟩
theorem u8_of {z:Int} (hz:(Lit.int .u8 z).wf=true):∃ n:Nat,z=(n:Int)∧n<256:=by
 have h:0≤z∧z<256:=by
  simp [Lit.wf,IntKind.min,IntKind.max,IntKind.signed,IntKind.bits] at hz
  omega
 exact⟨z.toNat,by omega,by omega⟩
theorem look_of (xs:List AVal) (h:AhF [.int .u8,.int .u8,.str] xs):∃ (a b:Nat) (s:List UInt8),xs=[.int .u8 (a:Int),.int .u8 (b:Int),.str s]∧a<256∧b<256:=by
 simp only [AhF,ShpA] at h
 obtain⟨_,r1,rfl,⟨z,rfl,hz⟩,_,r2,rfl,⟨z',rfl,hz'⟩,_,r3,rfl,⟨s,rfl,_⟩,rfl⟩:=h
 obtain⟨n,rfl,hn⟩:=u8_of hz
 obtain⟨n',rfl,hn'⟩:=u8_of hz'
 exact⟨n,n',s,rfl,hn,hn'⟩
end Go.Eng.Rf
