/- A part of the engine: a machine over abstract values, and the proof that the program does what it does; no condition. -/
import Derived.Test.YtiggilmfehhgaaaGreatDoorE6
set_option linter.unusedSectionVars false
set_option linter.unusedVariables false
set_option linter.unusedSimpArgs false
set_option linter.unnecessarySimpa false
namespace Go.Eng
open Go
abbrev mv (d s:Nat):Aaq:=⟨some d,.move (.t s),none,[]⟩
abbrev mu (d s:Nat) (u:List Nat):Aaq:=⟨some d,.move (.t s),none,u⟩
abbrev i1 (d:Nat) (o:AOp):Aaq:=⟨some d,o,none,[]⟩
abbrev iu (d:Nat) (o:AOp) (u:List Nat):Aaq:=⟨some d,o,none,u⟩
abbrev ig (d:Nat) (o:AOp) (t:Nat) (b:Bool):Aaq:=⟨some d,o,some (t,b),[]⟩
abbrev i0 (o:AOp):Aaq:=⟨none,o,none,[]⟩
abbrev j0 (o:AOp) (u:List Nat):Aaq:=⟨none,o,none,u⟩
abbrev cf (f:Nat) (xs:List AOpd):AOp := .call (.c (.fn (.func f) [] [])) xs
abbrev k6 (n:Int):AOpd := .c (.int .i64 n)
abbrev zs (k:IntKind) (n:Nat):List AVal:=List.replicate n (.int k 0)
abbrev ur (n:Nat):List Nat:=List.range n
abbrev ub (a n:Nat):List Nat:=List.range' a n
end Go.Eng
namespace Go.Eng
abbrev Aka:Nat:=577
abbrev AjY:Nat:=179
abbrev f_r07_Seal:Nat:=533
abbrev Afh:Nat:=531
abbrev Agz:Nat:=238
abbrev Anz:Nat:=576
abbrev AgB:Nat:=575
abbrev f_r06_Turn:Nat:=574
abbrev Afy:Nat:=282
abbrev Ajt:Nat:=283
abbrev Abk:Nat:=83
abbrev AgA:Nat:=408
abbrev f_word_Get:Nat:=373
abbrev AcK:Nat:=334
abbrev AdE:Nat:=336
abbrev Ahr:Nat:=337
abbrev AeL:Nat:=338
abbrev Aib:Nat:=340
abbrev Ahp:Nat:=608
abbrev Alf:Nat:=607
abbrev Ahq:Nat:=370
abbrev f_aes_Box:Nat:=371
abbrev Adc:Nat:=372
abbrev AnB:Nat:=499
abbrev Add:Nat:=446
abbrev Afz:Nat:=447
abbrev f_r03_Pad:Nat:=629
abbrev AnA:Nat:=630
abbrev f_r03_Step:Nat:=631
abbrev f_r05_Box:Nat:=626
abbrev Anx:Nat:=627
abbrev f_r05_By:Nat:=628
abbrev Afg:Nat:=374
abbrev Akc:Nat:=481
abbrev AeK:Nat:=131
abbrev Abi:Nat:=482
abbrev Adb:Nat:=265
abbrev AgC:Nat:=513
abbrev f_aes_add:Nat:=514
abbrev AfL:Nat:=515
abbrev f_aes_mixed:Nat:=516
abbrev f_r03_K:Nat:=660
abbrev AbN:Nat:=661
abbrev Ajq:Nat:=658
abbrev Abs:Nat:=659
abbrev f_sha_Sum:Nat:=483
abbrev Ajs:Nat:=565
abbrev Anv:Nat:=545
abbrev f_sha_Keys:Nat:=546
abbrev Anu:Nat:=547
abbrev f_sha_step:Nat:=548
abbrev AeB:Nat:=594
abbrev Agy:Nat:=595
abbrev AaO:Nat:=596
abbrev AcL:Nat:=622
end Go.Eng
namespace Go.Eng.Ses
open Go Go.Eng
def d_seal_New_1:Aaj := .seq (.ops [i1 17 (.build ([(.bool false),(.bool false)]++zs .u8 432++[(.str [])]) []),i0 (.store 435 (.t 2) (.t 17)),i1 3 (.move (k6 2))]) (.ret)
def d_seal_New_2:Aaj := .seq (.ops [mv 10 0,i1 11 (.bin .eql (.t 10) (.c (.str []))),mv 12 11,ig 13 (.move (.t 0)) 12 false,ig 14 (.len true (.t 13)) 12 false,ig 15 (.bin .gtr (.t 14) (k6 64)) 12 false,i1 16 (.pick (.t 12) (.c (.bool true)) (.t 15))]) (.cond (.t 16) (d_seal_New_1) (.skip))
def d_seal_New_3:Aaj := .seq (.ops [i1 33 (.load true 433 (.t 8)),mv 34 6,i1 35 (.build ([(.bool false),(.bool false)]++zs .u8 432++[(.str [])]) [((0,1),(.c (.bool true))),((1,433),(.t 33)),((434,1),(.t 34))]),i0 (.store 435 (.t 2) (.t 35)),i1 3 (.move (k6 0))]) (.ret)
def d_seal_New_4:Aaj := .seq (.ops [mv 29 4,i1 30 (cf Ajt [(.t 29)]),mv 28 30,i1 31 (.extract (.t 28) 0),i1 32 (.extract (.t 28) 1),i1 8 (.alloc ([(.bool false)]++zs .u8 432)),i0 (.store 433 (.t 8) (.t 31)),mv 9 32]) (d_seal_New_3)
def d_seal_New_5:Aaj := .seq (.ops [mv 24 0,i1 25 (cf Afy [(.t 24),(.c (.str [109,97,99])),(k6 32)]),mv 23 25,i1 26 (.extract (.t 23) 0),i1 27 (.extract (.t 23) 1),mv 6 26,mv 7 27]) (d_seal_New_4)
def d_seal_New_6:Aaj := .seq (.ops [mv 19 0,i1 20 (cf Afy [(.t 19),(.c (.str [101,110,99])),(k6 16)]),mv 18 20,i1 21 (.extract (.t 18) 0),i1 22 (.extract (.t 18) 1),mv 4 21,mv 5 22]) (d_seal_New_5)
def Aku:AFunc:=⟨1,36,[.cell 2 true 435,.tmp 3],
 .seq (.ops [i1 2 (.alloc ([(.bool false),(.bool false)]++zs .u8 432++[(.str [])])),i1 3 (.move (k6 0))]) (.seq (d_seal_New_2) (d_seal_New_6))⟩
def Akh:Aaj := .seq (.ops [mv 17 9,i1 18 (.load true 435 (.t 4)),mv 19 1,mv 20 2,mv 21 9,i1 22 (cf AeL [(.t 18),(.t 19),(.t 20),(.t 21)]),i1 23 (.bin .add (.t 17) (.t 22)),mv 8 23]) (.ret)
def Akg:Aaj := .seq (.ops [i1 12 (.faddr 1 (.t 4)),i1 13 (.load true 433 (.t 12)),mv 14 2,mv 15 3,i1 16 (cf Ahr [(.t 13),(.t 14),(.t 15)]),mv 9 16]) (Akh)
def Aej:AFunc:=⟨4,24,[.tmp 8],
 .seq (.ops [i1 4 (.box 435 (.t 0)),i1 8 (.move (.c (.str [])))]) (.seq (.ops [i1 10 (.load true 435 (.t 4)),i1 11 (cf AdE [(.t 10)]),i0 (.store 435 (.t 4) (.t 11))]) (Akg))⟩
def Akl:Aaj := .seq (.ops [mv 11 3,i1 12 (.len true (.t 11)),i1 13 (.bin .lss (.t 12) (k6 16))]) (.cond (.t 13) (.seq (.ops [i1 8 (.move (.c (.str []))),i1 9 (.move (k6 3))]) (.ret)) (.skip))
def Akk:Aaj := .seq (.drawS [[i1 21 (.load true 435 (.t 4)),mu 22 1 [0],mu 23 2 [0,1],mu 24 10 [0,1,2],i1 25 (cf AeL [(.t 21),(.t 22),(.t 23),(.t 24)]),mu 26 3 (ur 5),mu 27 10 (ur 6),iu 28 (.len true (.t 27)) (ur 6),iu 29 (.sliceStr (.t 26) (some (.t 28)) none) (ur 5)],[i1 30 (cf AnB [(.t 25),(.t 29)])],[i1 31 (.un .not (.t 30))]]) (.cond (.t 31) (.seq (.ops [i1 8 (.move (.c (.str []))),i1 9 (.move (k6 8))]) (.ret)) (.skip))
def Akj:Aaj := .seq (.ops [i1 32 (.faddr 1 (.t 4)),i1 33 (.load true 433 (.t 32)),mv 34 2,mv 35 10,i1 36 (cf Ahr [(.t 33),(.t 34),(.t 35)]),mv 8 36,i1 9 (.move (k6 0))]) (.ret)
def Aki:Aaj := .seq (.ops [mv 16 3,mv 17 3,i1 18 (.len true (.t 17)),i1 19 (.bin .sub (.t 18) (k6 16)),i1 20 (.sliceStr (.t 16) none (some (.t 19))),mv 10 20]) (.seq (Akk) (Akj))
def Aek:AFunc:=⟨4,37,[.tmp 8,.tmp 9],
 .seq (.ops [i1 4 (.box 435 (.t 0)),i1 8 (.move (.c (.str []))),i1 9 (.move (k6 0))]) (.seq (Akl) (.seq (.ops [i1 14 (.load true 435 (.t 4)),i1 15 (cf AdE [(.t 14)]),i0 (.store 435 (.t 4) (.t 15))]) (Aki)))⟩
def d_r07_Seal_1:Aaj := .seq (.ops [mv 15 9,mv 16 0,i1 17 (cf AgB [(.t 16),(.c (.str [109,97,99])),(k6 32)]),mv 18 1,mv 19 2,i1 20 (cf Aka [(.t 18),(.t 19)]),mv 21 9,i1 22 (.bin .add (.t 20) (.t 21)),i1 23 (cf Anz [(.t 17),(.t 22)]),i1 24 (.sliceStr (.t 23) none (some (k6 16))),i1 25 (.bin .add (.t 15) (.t 24)),mv 8 25]) (.ret)
def d_r07_Seal_2:Aaj := .seq (.ops [mv 10 0,i1 11 (cf AgB [(.t 10),(.c (.str [101,110,99])),(k6 16)]),mv 12 2,mv 13 3,i1 14 (cf f_r06_Turn [(.t 11),(.t 12),(.t 13)]),mv 9 14]) (d_r07_Seal_1)
def Akw:AFunc:=⟨4,26,[.tmp 8],
 .seq (.ops [i1 8 (.move (.c (.str [])))]) (d_r07_Seal_2)⟩
def d_hmac_Derive_1:Aaj := .seq (.ops [mv 11 2,i1 12 (.bin .lss (.t 11) (k6 0)),mv 13 12,ig 14 (.move (.t 2)) 13 false,ig 15 (.bin .gtr (.t 14) (k6 8160)) 13 false,i1 16 (.pick (.t 13) (.c (.bool true)) (.t 15))]) (.cond (.t 16) (.seq (.ops [i1 6 (.move (.c (.str []))),i1 7 (.move (k6 7))]) (.ret)) (.skip))
def d_hmac_Derive_2:Aaj := .seq (.ops [mv 23 0,mv 24 9,mv 25 1,mv 26 10,i1 27 (.buildSlice [(.int .u8 0)] 1 1 [(0,(.t 26))]),i1 28 (.conv .str (.t 27)),i1 29 (.buildSlice [(.str [])] 1 3 [(0,(.t 24)),(1,(.t 25)),(2,(.t 28))]),i1 30 (cf Ahq [(.t 23),(.t 29)]),mv 9 30]) (.ops [mv 31 8,mv 32 9,i1 33 (.bin .add (.t 31) (.t 32)),mv 8 33])
def d_hmac_Derive_3:Aaj := .seq (.seq (.ops [mv 17 8,i1 18 (.len true (.t 17)),mv 19 2,i1 20 (.bin .lss (.t 18) (.t 19))]) (.cond (.t 20) (.skip) (.exit 0))) (.seq (.block 1 (d_hmac_Derive_2)) (.ops [mv 21 10,i1 22 (.bin .add (.t 21) (.c (.int .u8 1))),mv 10 22]))
def d_hmac_Derive_4:Aaj := .seq (.seq (.ops [i1 10 (.move (.c (.int .u8 1)))]) (.block 0 (.loop (d_hmac_Derive_3)))) (.seq (.ops [mv 34 8,mv 35 2,i1 36 (.sliceStr (.t 34) none (some (.t 35))),mv 6 36,i1 7 (.move (k6 0))]) (.ret))
def AfC:AFunc:=⟨3,37,[.tmp 6,.tmp 7],
 .seq (.ops [i1 6 (.move (.c (.str []))),i1 7 (.move (k6 0))]) (.seq (d_hmac_Derive_1) (.seq (.ops [i1 8 (.move (.c (.str []))),i1 9 (.move (.c (.str [])))]) (d_hmac_Derive_4)))⟩
def d_aes_New_1:Aaj := .seq (.ops [mv 10 0,i1 11 (.len true (.t 10)),i1 12 (.bin .neq (.t 11) (k6 16))]) (.cond (.t 12) (.seq (.ops [i1 13 (.build ([(.bool false)]++zs .u8 432) []),i0 (.store 433 (.t 2) (.t 13)),i1 3 (.move (k6 4))]) (.ret)) (.skip))
def d_aes_New_2:Aaj := .draw [mv 53 8,mu 54 9 [0],mu 55 9 [0,1],iu 56 (.iaddrArr 16 1 (.t 7) (.t 55)) [0,1],iu 57 (.load false 1 (.t 56)) [0,1],iu 58 (.iaddrArr 16 1 (.t 7) (k6 13)) (ur 5),iu 59 (.load false 1 (.t 58)) (ur 5),iu 60 (.faddr 177 (.t 4)) (ur 7),iu 61 (.iaddrArr 256 1 (.t 60) (.t 59)) (ur 5),iu 62 (.load false 1 (.t 61)) (ur 5),iu 63 (.bin .xor (.t 57) (.t 62)) [0,1],mu 64 5 (ur 11),iu 65 (.bin .xor (.t 63) (.t 64)) [0,1],iu 66 (.nilCheck (.t 53)) (ub 1 12),i1 67 (.iaddrArr 16 1 (.t 66) (.t 54)),i0 (.store 1 (.t 67) (.t 65))]
def d_aes_New_3:Aaj := .draw [mv 71 8,mu 72 9 [0],mu 73 9 [0,1],iu 74 (.iaddrArr 16 1 (.t 7) (.t 73)) [0,1],iu 75 (.load false 1 (.t 74)) [0,1],mu 76 9 (ur 5),iu 77 (.bin .add (.t 76) (k6 1)) (ur 5),iu 78 (.bin .rem (.t 77) (k6 4)) (ur 5),iu 79 (.bin .add (k6 12) (.t 78)) (ur 5),iu 80 (.iaddrArr 16 1 (.t 7) (.t 79)) (ur 5),iu 81 (.load false 1 (.t 80)) (ur 5),iu 82 (.faddr 177 (.t 4)) (ur 11),iu 83 (.iaddrArr 256 1 (.t 82) (.t 81)) (ur 5),iu 84 (.load false 1 (.t 83)) (ur 5),iu 85 (.bin .xor (.t 75) (.t 84)) [0,1],iu 86 (.nilCheck (.t 71)) (ub 1 14),i1 87 (.iaddrArr 16 1 (.t 86) (.t 72)),i0 (.store 1 (.t 87) (.t 85))]
def d_aes_New_4:Aaj := .draw [mv 36 8,mu 37 9 [0],mu 38 9 [0,1],iu 39 (.iaddrArr 16 1 (.t 7) (.t 38)) [0,1],iu 40 (.load false 1 (.t 39)) [0,1],mu 41 8 (ur 5),mu 42 9 (ur 6),iu 43 (.bin .sub (.t 42) (k6 4)) (ur 6),iu 44 (.nilCheck (.t 41)) (ur 5++ub 6 2),iu 45 (.iaddrArr 16 1 (.t 44) (.t 43)) (ur 5),iu 46 (.load false 1 (.t 45)) (ur 5),iu 47 (.bin .xor (.t 40) (.t 46)) [0,1],iu 48 (.nilCheck (.t 36)) (ub 1 11),i1 49 (.iaddrArr 16 1 (.t 48) (.t 37)),i0 (.store 1 (.t 49) (.t 47))]
def d_aes_New_5:Aaj := .seq (.ops [mv 51 9,i1 52 (.bin .eql (.t 51) (k6 0)),mv 50 52]) (.cond (.t 50) (d_aes_New_2) (.seq (.ops [mv 69 9,i1 70 (.bin .lss (.t 69) (k6 4)),mv 68 70]) (.cond (.t 68) (d_aes_New_3) (d_aes_New_4))))
def d_aes_New_6:Aaj := .seq (.cond (.t 34) (.skip) (.exit 2)) (.seq (.block 3 (.seq (.ops [mv 35 33,mv 9 35]) (.block 4 (d_aes_New_5)))) (.ops [i1 88 (.bin .add (.t 33) (k6 1)),mv 33 88]))
def d_aes_New_7:Aaj := .seq (.seq (.ops [i1 33 (.move (k6 0))]) (.block 2 (.loop (.seq (.ops [i1 34 (.bin .lss (.t 33) (k6 16))]) (d_aes_New_6))))) (.ops [mv 89 5,i1 90 (cf Adc [(.t 89),(.c (.int .u8 2))]),mv 5 90])
def d_aes_New_8:Aaj := .seq (.draw [mv 25 6,i1 26 (.bin .sub (.t 25) (k6 1)),iu 27 (.faddr 1 (.t 4)) [0,1],i1 28 (.iaddrArr 11 16 (.t 27) (.t 26)),i1 29 (.load true 16 (.t 28)),mu 30 6 (ur 5),iu 31 (.faddr 1 (.t 4)) (ur 6),iu 32 (.iaddrArr 11 16 (.t 31) (.t 30)) (ur 5),iu 7 (.alloc (zs .u8 16)) (ur 8),j0 (.store 16 (.t 7) (.t 29)) [5,6,7],mv 8 32]) (d_aes_New_7)
def d_aes_New_9:Aaj := .seq (.seq (.ops [mv 21 6,i1 22 (.bin .leq (.t 21) (k6 10))]) (.cond (.t 22) (.skip) (.exit 0))) (.seq (.block 1 (d_aes_New_8)) (.ops [mv 23 6,i1 24 (.bin .add (.t 23) (k6 1)),mv 6 24]))
def d_aes_New_10:Aaj := .seq (.seq (.ops [i1 6 (.move (k6 1))]) (.block 0 (.loop (d_aes_New_9)))) (.seq (.ops [i1 91 (.load true 433 (.t 4)),i0 (.store 433 (.t 2) (.t 91)),i1 3 (.move (k6 0))]) (.ret))
def d_aes_New_11:Aaj := .seq (.ops [i1 16 (.faddr 1 (.t 4)),i1 17 (.iaddrArr 11 16 (.t 16) (k6 0)),i1 18 (.sliceArr 16 1 (.t 17) none none none),mv 19 0,i1 20 (.copy 1 (.t 18) (.t 19))]) (.seq (.ops [i1 5 (.move (.c (.int .u8 1)))]) (d_aes_New_10))
def d_aes_New_12:Aaj := .seq (.ops [i1 14 (cf f_aes_Box []),i1 15 (.build ([(.bool false)]++zs .u8 432) [((0,1),(.c (.bool true))),((177,256),(.t 14))]),i1 4 (.alloc ([(.bool false)]++zs .u8 432)),i0 (.store 433 (.t 4) (.t 15))]) (d_aes_New_11)
def c_aes_New:AFunc:=⟨1,92,[.cell 2 true 433,.tmp 3],
 .seq (.ops [i1 2 (.alloc ([(.bool false)]++zs .u8 432)),i1 3 (.move (k6 0))]) (.seq (d_aes_New_1) (d_aes_New_12))⟩
def Ajy:Aaj := .cond (.t 5) (.ops [i1 7 (cf AjY [(.c (.str [0]))]),mv 6 7,i1 8 (.extract (.t 6) 0),i1 9 (.extract (.t 6) 1),i0 (.store 435 (.t 1) (.t 8))]) (.skip)
def Ajx:Aaj := .seq (.seq (.ops [i1 3 (.faddr 0 (.t 1)),i1 4 (.load false 1 (.t 3)),i1 5 (.un .not (.t 4))]) (Ajy)) (.seq (.ops [i1 10 (.load true 435 (.t 1)),i0 (.store 435 (.t 2) (.t 10))]) (.ret))
def AdF:AFunc:=⟨1,11,[.cell 2 true 435],
 .seq (.ops [i1 1 (.box 435 (.t 0)),i1 2 (.alloc ([(.bool false),(.bool false)]++zs .u8 432++[(.str [])]))]) (Ajx)⟩
def d_ctr_Turn_1:Aaj := .draw [mv 38 7,mu 39 8 [0],mu 40 10 [0,1],iu 41 (.bin .add (.t 39) (.t 40)) [0],i1 42 (.iaddr 1 (.t 38) (.t 41)),i1 43 (.load false 1 (.t 42)),mu 44 10 (ur 6),iu 45 (.iaddrArr 16 1 (.t 9) (.t 44)) (ur 6),iu 46 (.load false 1 (.t 45)) (ur 6),i1 47 (.bin .xor (.t 43) (.t 46)),i1 48 (.iaddr 1 (.t 38) (.t 41)),i0 (.store 1 (.t 48) (.t 47))]
def d_ctr_Turn_2:Aaj := .seq (.cond (.t 36) (.skip) (.exit 2)) (.seq (.block 3 (.seq (.ops [mv 37 35,mv 10 37]) (d_ctr_Turn_1))) (.ops [i1 49 (.bin .add (.t 35) (k6 1)),mv 35 49]))
def d_ctr_Turn_3:Aaj := .seq (.ops [mv 26 7,mv 27 8,mv 28 8,i1 29 (.bin .add (.t 28) (k6 16)),mv 30 7,i1 31 (.len false (.t 30)),i1 32 (.minI [(.t 29),(.t 31)]),i1 33 (.slice 1 (.t 26) (some (.t 27)) (some (.t 32)) none),i1 34 (.len false (.t 33)),i1 35 (.move (k6 0))]) (.block 2 (.loop (.seq (.ops [i1 36 (.bin .lss (.t 35) (.t 34))]) (d_ctr_Turn_2))))
def d_ctr_Turn_4:Aaj := .seq (.draw [i1 19 (.load true 433 (.t 3)),mu 20 1 [0],mu 21 8 [0,1],iu 22 (.bin .quo (.t 21) (k6 16)) [0,1],iu 23 (.conv (.int .u64) (.t 22)) [0,1],iu 24 (cf Afz [(.t 20),(.t 23)]) [0],i1 25 (cf Add [(.t 19),(.t 24)]),iu 9 (.alloc (zs .u8 16)) (ur 7),i0 (.store 16 (.t 9) (.t 25))]) (d_ctr_Turn_3)
def d_ctr_Turn_5:Aaj := .seq (.seq (.ops [mv 13 8,mv 14 7,i1 15 (.len false (.t 14)),i1 16 (.bin .lss (.t 13) (.t 15))]) (.cond (.t 16) (.skip) (.exit 0))) (.seq (.block 1 (d_ctr_Turn_4)) (.ops [mv 17 8,i1 18 (.bin .add (.t 17) (k6 16)),mv 8 18]))
def d_ctr_Turn_6:Aaj := .seq (.ops [mv 11 2,i1 12 (.conv .bytes (.t 11)),mv 7 12]) (.seq (.seq (.ops [i1 8 (.move (k6 0))]) (.block 0 (.loop (d_ctr_Turn_5)))) (.seq (.ops [mv 50 7,i1 51 (.conv .str (.t 50)),mv 6 51]) (.ret)))
def AkF:AFunc:=⟨3,52,[.tmp 6],
 .seq (.ops [i1 3 (.box 433 (.t 0)),i1 6 (.move (.c (.str [])))]) (d_ctr_Turn_6)⟩
def Alt:Aaj := .seq (.drawS [[i1 9 (.faddr 434 (.t 4)),i1 10 (.load false 1 (.t 9)),mu 11 1 [0,1],mu 12 2 [0,1,2],iu 13 (cf Aib [(.t 11),(.t 12)]) [0,1],mu 14 3 (ur 5),iu 15 (.buildSlice [(.str [])] 1 2 [(0,(.t 13)),(1,(.t 14))]) [0,1]],[i1 16 (cf Ahq [(.t 10),(.t 15)])],[i1 17 (.sliceStr (.t 16) none (some (k6 16)))],[mv 8 17]]) (.ret)
def AeP:AFunc:=⟨4,18,[.tmp 8],
 .seq (.ops [i1 4 (.box 435 (.t 0)),i1 8 (.move (.c (.str [])))]) (Alt)⟩
def d_hmac_Same_1:Aaj := .seq (.ops [mv 7 0,i1 8 (.len true (.t 7)),mv 9 1,i1 10 (.len true (.t 9)),i1 11 (.bin .neq (.t 8) (.t 10))]) (.cond (.t 11) (.seq (.ops [i1 4 (.move (.c (.bool false)))]) (.ret)) (.skip))
def d_hmac_Same_2:Aaj := .draw [mv 17 5,mu 18 0 [0],mu 19 6 [0,1],iu 20 (.idxStr (.t 18) (.t 19)) [0],mu 21 1 (ur 4),mu 22 6 (ur 5),iu 23 (.idxStr (.t 21) (.t 22)) (ur 4),iu 24 (.bin .xor (.t 20) (.t 23)) [0],i1 25 (.bin .or (.t 17) (.t 24)),mv 5 25]
def d_hmac_Same_3:Aaj := .seq (.cond (.t 15) (.skip) (.exit 0)) (.seq (.block 1 (.seq (.ops [mv 16 14,mv 6 16]) (d_hmac_Same_2))) (.ops [i1 26 (.bin .add (.t 14) (k6 1)),mv 14 26]))
def d_hmac_Same_4:Aaj := .seq (.ops [mv 12 0,i1 13 (.len true (.t 12)),i1 14 (.move (k6 0))]) (.block 0 (.loop (.seq (.ops [i1 15 (.bin .lss (.t 14) (.t 13))]) (d_hmac_Same_3))))
def d_hmac_Same_5:Aaj := .seq (.ops [i1 5 (.move (.c (.int .u8 0)))]) (.seq (d_hmac_Same_4) (.seq (.ops [mv 27 5,i1 28 (.bin .eql (.t 27) (.c (.int .u8 0))),mv 4 28]) (.ret)))
def AiB:AFunc:=⟨2,29,[.tmp 4],
 .seq (.ops [i1 4 (.move (.c (.bool false)))]) (.seq (d_hmac_Same_1) (d_hmac_Same_5))⟩
def d_r04_Derive_1:Aaj := .seq (.ops [mv 16 0,mv 17 8,mv 18 1,i1 19 (.bin .add (.t 17) (.t 18)),mv 20 9,i1 21 (.conv (.int .u8) (.t 20)),i1 22 (.buildSlice [(.int .u8 0)] 1 1 [(0,(.t 21))]),i1 23 (.conv .str (.t 22)),i1 24 (.bin .add (.t 19) (.t 23)),i1 25 (cf Anz [(.t 16),(.t 24)]),mv 8 25]) (.ops [mv 26 7,mv 27 8,i1 28 (.bin .add (.t 26) (.t 27)),mv 7 28])
def d_r04_Derive_2:Aaj := .seq (.seq (.ops [mv 10 7,i1 11 (.len true (.t 10)),mv 12 2,i1 13 (.bin .lss (.t 11) (.t 12))]) (.cond (.t 13) (.skip) (.exit 0))) (.seq (.block 1 (d_r04_Derive_1)) (.ops [mv 14 9,i1 15 (.bin .add (.t 14) (k6 1)),mv 9 15]))
def d_r04_Derive_3:Aaj := .seq (.seq (.ops [i1 9 (.move (k6 1))]) (.block 0 (.loop (d_r04_Derive_2)))) (.seq (.ops [mv 29 7,mv 30 2,i1 31 (.sliceStr (.t 29) none (some (.t 30))),mv 6 31]) (.ret))
def AgV:AFunc:=⟨3,32,[.tmp 6],
 .seq (.ops [i1 6 (.move (.c (.str [])))]) (.seq (.ops [i1 7 (.move (.c (.str []))),i1 8 (.move (.c (.str [])))]) (d_r04_Derive_3))⟩
def d_r06_Turn_1:Aaj := .draw [mv 24 8,mu 25 9 [0],mu 26 2 [0,1],mu 27 9 [0,1,2],iu 28 (.idxStr (.t 26) (.t 27)) [0,1],mu 29 7 (ur 5),mu 30 9 (ur 6),iu 31 (.idxStr (.t 29) (.t 30)) (ur 5),iu 32 (.bin .xor (.t 28) (.t 31)) [0,1],i1 33 (.iaddr 1 (.t 24) (.t 25)),i0 (.store 1 (.t 33) (.t 32))]
def d_r06_Turn_2:Aaj := .seq (.seq (.ops [mv 18 9,mv 19 2,i1 20 (.len true (.t 19)),i1 21 (.bin .lss (.t 18) (.t 20))]) (.cond (.t 21) (.skip) (.exit 0))) (.seq (.block 1 (d_r06_Turn_1)) (.ops [mv 22 9,i1 23 (.bin .add (.t 22) (k6 1)),mv 9 23]))
def d_r06_Turn_3:Aaj := .seq (.ops [mv 15 2,i1 16 (.len true (.t 15)),i1 17 (.makeSlice [(.int .u8 0)] 1 1 (.t 16) (.t 16)),mv 8 17]) (.seq (.seq (.ops [i1 9 (.move (k6 0))]) (.block 0 (.loop (d_r06_Turn_2)))) (.seq (.ops [mv 34 8,i1 35 (.conv .str (.t 34)),mv 6 35]) (.ret)))
def Aky:AFunc:=⟨3,36,[.tmp 6],
 .seq (.ops [i1 6 (.move (.c (.str [])))]) (.seq (.ops [mv 10 0,mv 11 1,mv 12 2,i1 13 (.len true (.t 12)),i1 14 (cf Alf [(.t 10),(.t 11),(.t 13)]),mv 7 14]) (d_r06_Turn_3))⟩
def Akx:AFunc:=⟨2,10,[.tmp 4],
 .seq (.ops [i1 4 (.move (.c (.str [])))]) (.seq (.ops [mv 5 0,i1 6 (cf Afh [(.t 5),(k6 8)]),mv 7 1,i1 8 (cf Afh [(.t 7),(k6 8)]),i1 9 (.bin .add (.t 6) (.t 8)),mv 4 9]) (.ret))⟩
def d_r04_Sum_1:Aaj := .seq (.ops [mv 9 0,i1 10 (.len true (.t 9)),i1 11 (.bin .gtr (.t 10) (k6 64))]) (.cond (.t 11) (.ops [mv 12 0,i1 13 (cf Ahp [(.t 12)]),mv 0 13]) (.skip))
def d_r04_Sum_2:Aaj := .seq (.ops [mv 20 7,mv 21 0,i1 22 (.len true (.t 21)),i1 23 (.bin .lss (.t 20) (.t 22))]) (.cond (.t 23) (.ops [mv 24 0,mv 25 7,i1 26 (.idxStr (.t 24) (.t 25)),mv 8 26]) (.skip))
def d_r04_Sum_3:Aaj := .seq (.ops [mv 27 5,mv 28 7,mv 29 8,i1 30 (.bin .xor (.t 29) (.c (.int .u8 54))),i1 31 (.iaddr 1 (.t 27) (.t 28)),i0 (.store 1 (.t 31) (.t 30))]) (.ops [mv 32 6,mv 33 7,mv 34 8,i1 35 (.bin .xor (.t 34) (.c (.int .u8 92))),i1 36 (.iaddr 1 (.t 32) (.t 33)),i0 (.store 1 (.t 36) (.t 35))])
def d_r04_Sum_4:Aaj := .seq (.block 1 (.seq (.ops [i1 8 (.move (.c (.int .u8 0)))]) (.seq (d_r04_Sum_2) (d_r04_Sum_3)))) (.ops [mv 18 7,i1 19 (.bin .add (.t 18) (k6 1)),mv 7 19])
def d_r04_Sum_5:Aaj := .seq (.ops [i1 7 (.move (k6 0))]) (.block 0 (.loop (.seq (.seq (.ops [mv 16 7,i1 17 (.bin .lss (.t 16) (k6 64))]) (.cond (.t 17) (.skip) (.exit 0))) (d_r04_Sum_4))))
def d_r04_Sum_6:Aaj := .seq (.drawS [[mv 37 6,i1 38 (.conv .str (.t 37)),mu 39 5 [0,1],iu 40 (.conv .str (.t 39)) [0,1],mu 41 1 (ur 4),iu 42 (.bin .add (.t 40) (.t 41)) [0,1],iu 43 (cf Ahp [(.t 42)]) [0,1]],[i1 44 (.bin .add (.t 38) (.t 43))],[i1 45 (cf Ahp [(.t 44)])],[mv 4 45]]) (.ret)
def d_r04_Sum_7:Aaj := .seq (.draw [i1 14 (.makeSlice [(.int .u8 0)] 1 1 (k6 64) (k6 64)),iu 15 (.makeSlice [(.int .u8 0)] 1 1 (k6 64) (k6 64)) [0],mu 5 14 [1],mv 6 15]) (.seq (d_r04_Sum_5) (d_r04_Sum_6))
def c_r04_Sum:AFunc:=⟨2,46,[.tmp 4],
 .seq (.ops [i1 4 (.move (.c (.str [])))]) (.seq (d_r04_Sum_1) (d_r04_Sum_7))⟩
def d_hmac_Sum_1:Aaj := .seq (.ops [mv 5 0,i1 6 (cf Akc [(.t 5),(.c (.int .u8 92))]),mv 7 0,i1 8 (cf Akc [(.t 7),(.c (.int .u8 54))]),mv 9 1,i1 10 (cf AeK [(.t 9),(.c (.str []))]),i1 11 (.buildSlice [(.str [])] 1 2 [(0,(.t 8)),(1,(.t 10))]),i1 12 (cf Afg [(.t 11)]),i1 13 (.buildSlice [(.str [])] 1 2 [(0,(.t 6)),(1,(.t 12))]),i1 14 (cf Afg [(.t 13)]),mv 4 14]) (.ret)
def AkE:AFunc:=⟨2,15,[.tmp 4],
 .seq (.ops [i1 4 (.move (.c (.str [])))]) (d_hmac_Sum_1)⟩
def d_aes_Box_1:Aaj := .seq (.block 3 (.ops [mv 16 4,mv 17 3,mv 18 5,i1 19 (cf Abi [(.t 17),(.t 18)]),i1 20 (.bin .xor (.t 16) (.t 19)),mv 4 20])) (.ops [mv 14 5,i1 15 (.bin .add (.t 14) (k6 1)),mv 5 15])
def d_aes_Box_2:Aaj := .seq (.ops [i1 5 (.move (k6 1))]) (.block 2 (.loop (.seq (.seq (.ops [mv 12 5,i1 13 (.bin .leq (.t 12) (k6 4))]) (.cond (.t 13) (.skip) (.exit 2))) (d_aes_Box_1))))
def d_aes_Box_3:Aaj := .seq (.ops [mv 21 2,mv 22 4,i1 23 (.bin .xor (.t 22) (.c (.int .u8 99))),i1 24 (.iaddrArr 256 1 (.t 1) (.t 21)),i0 (.store 1 (.t 24) (.t 23))]) (.seq (.ops [mv 25 2,i1 26 (.bin .eql (.t 25) (.c (.int .u8 1)))]) (.cond (.t 26) (.exit 0) (.skip)))
def d_aes_Box_4:Aaj := .seq (.ops [mv 7 2,i1 8 (cf Adc [(.t 7),(.c (.int .u8 3))]),mv 2 8]) (.seq (.ops [mv 9 3,i1 10 (cf Adc [(.t 9),(.c (.int .u8 246))]),mv 3 10]) (.seq (.ops [mv 11 3,mv 4 11]) (.seq (d_aes_Box_2) (d_aes_Box_3))))
def d_aes_Box_5:Aaj := .seq (.ops [i1 2 (.move (.c (.int .u8 1))),i1 3 (.move (.c (.int .u8 1)))]) (.seq (.skip) (.seq (.block 0 (.loop (.block 1 (d_aes_Box_4)))) (.seq (.ops [i1 27 (.load true 256 (.t 1)),i0 (.store 256 (.t 0) (.t 27))]) (.ret))))
def c_aes_Box:AFunc:=⟨0,28,[.cell 0 true 256],
 .seq (.ops [i1 0 (.alloc (zs .u8 256))]) (.seq (.ops [i1 1 (.alloc (zs .u8 256))]) (.seq (.ops [i1 6 (.iaddrArr 256 1 (.t 1) (k6 0)),i0 (.store 1 (.t 6) (.c (.int .u8 99)))]) (d_aes_Box_5)))⟩
def d_aes_Times_1:Aaj := .seq (.ops [mv 11 1,i1 12 (.bin .and (.t 11) (.c (.int .u8 1))),i1 13 (.bin .eql (.t 12) (.c (.int .u8 1)))]) (.cond (.t 13) (.ops [mv 14 5,mv 15 0,i1 16 (.bin .xor (.t 14) (.t 15)),mv 5 16]) (.skip))
def d_aes_Times_2:Aaj := .ops [mv 19 0,i1 20 (.bin .shl (.t 19) (.c (.int .u64 1))),mv 21 6,i1 22 (.bin .mul (.t 21) (.c (.int .u8 27))),i1 23 (.bin .xor (.t 20) (.t 22)),mv 0 23]
def d_aes_Times_3:Aaj := .seq (.block 1 (.seq (d_aes_Times_1) (.seq (.ops [mv 17 0,i1 18 (.bin .shr (.t 17) (.c (.int .u64 7))),mv 6 18]) (d_aes_Times_2)))) (.ops [mv 9 1,i1 10 (.bin .shr (.t 9) (.c (.int .u64 1))),mv 1 10])
def d_aes_Times_4:Aaj := .seq (.block 0 (.loop (.seq (.seq (.ops [mv 7 1,i1 8 (.bin .gtr (.t 7) (.c (.int .u8 0)))]) (.cond (.t 8) (.skip) (.exit 0))) (d_aes_Times_3)))) (.seq (.ops [mv 24 5,mv 4 24]) (.ret))
def AiE:AFunc:=⟨2,25,[.tmp 4],
 .seq (.ops [i1 4 (.move (.c (.int .u8 0)))]) (.seq (.ops [i1 5 (.move (.c (.int .u8 0)))]) (d_aes_Times_4))⟩
def d_ctr_Block_1:Aaj := .seq (.ops [mv 5 0,i1 6 (cf AcK [(.t 5),(k6 8)]),mv 7 1,i1 8 (cf AcK [(.t 7),(k6 8)]),i1 9 (.bin .add (.t 6) (.t 8)),i1 10 (.conv .bytes (.t 9)),i1 11 (.toArr 16 1 (.t 10)),i1 12 (.load true 16 (.t 11)),i0 (.store 16 (.t 4) (.t 12))]) (.ret)
def AiC:AFunc:=⟨2,13,[.cell 4 true 16],
 .seq (.ops [i1 4 (.alloc (zs .u8 16))]) (d_ctr_Block_1)⟩
def Aiq:Aaj := .seq (.ops [mv 19 5,i1 20 (.bin .lss (.t 19) (k6 10))]) (.cond (.t 20) (.ops [i1 21 (.load true 16 (.t 3)),i1 22 (cf f_aes_mixed [(.t 21)]),i0 (.store 16 (.t 3) (.t 22))]) (.skip))
def Aip:Aaj := .drawS [[i1 23 (.load true 16 (.t 3)),mu 24 5 [0],iu 25 (.faddr 1 (.t 2)) [0,1],iu 26 (.iaddrArr 11 16 (.t 25) (.t 24)) [0],iu 27 (.load true 16 (.t 26)) [0]],[i1 28 (cf f_aes_add [(.t 23),(.t 27)])],[i0 (.store 16 (.t 3) (.t 28))]]
def Aio:Aaj := .seq (.ops [i1 17 (.load true 16 (.t 3)),i1 18 (cf AfL [(.t 2),(.t 17)]),i0 (.store 16 (.t 3) (.t 18))]) (.seq (Aiq) (Aip))
def Ain:Aaj := .seq (.seq (.ops [mv 13 5,i1 14 (.bin .leq (.t 13) (k6 10))]) (.cond (.t 14) (.skip) (.exit 0))) (.seq (.block 1 (Aio)) (.ops [mv 15 5,i1 16 (.bin .add (.t 15) (k6 1)),mv 5 16]))
def Aim:Aaj := .seq (.seq (.ops [i1 5 (.move (k6 1))]) (.block 0 (.loop (Ain)))) (.seq (.ops [i1 29 (.load true 16 (.t 3)),i0 (.store 16 (.t 4) (.t 29))]) (.ret))
def Ail:Aaj := .seq (.ops [i1 8 (.load true 16 (.t 3)),i1 9 (.faddr 1 (.t 2)),i1 10 (.iaddrArr 11 16 (.t 9) (k6 0)),i1 11 (.load true 16 (.t 10)),i1 12 (cf f_aes_add [(.t 8),(.t 11)]),i0 (.store 16 (.t 3) (.t 12))]) (Aim)
def Adg:AFunc:=⟨2,30,[.cell 4 true 16],
 .seq (.ops [i1 2 (.box 433 (.t 0)),i1 3 (.box 16 (.t 1)),i1 4 (.alloc (zs .u8 16))]) (.seq (.ops [i1 6 (.load true 433 (.t 2)),i1 7 (cf AgC [(.t 6)]),i0 (.store 433 (.t 2) (.t 7))]) (Ail))⟩
def Aiw:AFunc:=⟨2,10,[.tmp 4],
 .seq (.ops [i1 4 (.move (.c (.str [])))]) (.seq (.ops [mv 5 0,i1 6 (cf AcK [(.t 5),(k6 8)]),mv 7 1,i1 8 (cf AcK [(.t 7),(k6 8)]),i1 9 (.bin .add (.t 6) (.t 8)),mv 4 9]) (.ret))⟩
def d_r06_Stream_1:Aaj := .seq (.block 3 (.ops [mv 35 13,mv 36 11,mv 37 13,i1 38 (.idxStr (.t 36) (.t 37)),i1 39 (.iaddrArr 16 1 (.t 12) (.t 35)),i0 (.store 1 (.t 39) (.t 38))])) (.ops [mv 33 13,i1 34 (.bin .add (.t 33) (k6 1)),mv 13 34])
def d_r06_Stream_2:Aaj := .seq (.ops [i1 13 (.move (k6 0))]) (.block 2 (.loop (.seq (.seq (.ops [mv 31 13,i1 32 (.bin .lss (.t 31) (k6 16))]) (.cond (.t 32) (.skip) (.exit 2))) (d_r06_Stream_1))))
def d_r06_Stream_3:Aaj := .seq (.ops [mv 44 15,i1 45 (.bin .lss (.t 44) (k6 16)),mv 46 45,ig 47 (.move (.t 7)) 46 true,ig 48 (.len true (.t 47)) 46 true,ig 49 (.move (.t 2)) 46 true,ig 50 (.bin .lss (.t 48) (.t 49)) 46 true,i1 51 (.pick (.t 46) (.t 50) (.c (.bool false)))]) (.cond (.t 51) (.skip) (.exit 4))
def d_r06_Stream_4:Aaj := .ops [mv 54 7,mv 55 15,i1 56 (.iaddrArr 16 1 (.t 14) (.t 55)),i1 57 (.load false 1 (.t 56)),i1 58 (.buildSlice [(.int .u8 0)] 1 1 [(0,(.t 57))]),i1 59 (.conv .str (.t 58)),i1 60 (.bin .add (.t 54) (.t 59)),mv 7 60]
def d_r06_Stream_5:Aaj := .seq (.ops [i1 15 (.move (k6 0))]) (.block 4 (.loop (.seq (d_r06_Stream_3) (.seq (.block 5 (d_r06_Stream_4)) (.ops [mv 52 15,i1 53 (.bin .add (.t 52) (k6 1)),mv 15 53])))))
def d_r06_Stream_6:Aaj := .seq (.ops [mv 40 8,mv 41 9,i1 42 (.load true 16 (.t 12)),i1 43 (cf f_r05_By [(.t 40),(.t 41),(.t 42)]),i1 14 (.alloc (zs .u8 16)),i0 (.store 16 (.t 14) (.t 43))]) (d_r06_Stream_5)
def d_r06_Stream_7:Aaj := .seq (.ops [mv 26 1,i1 27 (cf Afh [(.t 26),(k6 8)]),mv 28 10,i1 29 (cf Afh [(.t 28),(k6 8)]),i1 30 (.bin .add (.t 27) (.t 29)),mv 11 30]) (.seq (.ops [i1 12 (.alloc (zs .u8 16))]) (.seq (d_r06_Stream_2) (d_r06_Stream_6)))
def d_r06_Stream_8:Aaj := .seq (.seq (.ops [mv 20 7,i1 21 (.len true (.t 20)),mv 22 2,i1 23 (.bin .lss (.t 21) (.t 22))]) (.cond (.t 23) (.skip) (.exit 0))) (.seq (.block 1 (d_r06_Stream_7)) (.ops [mv 24 10,i1 25 (.bin .add (.t 24) (.c (.int .u64 1))),mv 10 25]))
def d_r06_Stream_9:Aaj := .seq (.ops [mv 17 0,mv 18 8,i1 19 (cf Anx [(.t 17),(.t 18)]),mv 9 19]) (.seq (.seq (.ops [i1 10 (.move (.c (.int .u64 0)))]) (.block 0 (.loop (d_r06_Stream_8)))) (.seq (.ops [mv 61 7,mv 6 61]) (.ret)))
def AgU:AFunc:=⟨3,62,[.tmp 6],
 .seq (.ops [i1 6 (.move (.c (.str [])))]) (.seq (.ops [i1 7 (.move (.c (.str [])))]) (.seq (.ops [i1 16 (cf f_r05_Box []),mv 8 16]) (d_r06_Stream_9)))⟩
def d_r01_Put_1:Aaj := .seq (.ops [mv 7 6,mv 8 1,i1 9 (.bin .lss (.t 7) (.t 8)),mv 10 9,ig 11 (.move (.t 6)) 10 true,ig 12 (.bin .lss (.t 11) (k6 8)) 10 true,i1 13 (.pick (.t 10) (.t 12) (.c (.bool false)))]) (.cond (.t 13) (.skip) (.exit 0))
def d_r01_Put_2:Aaj := .seq (.ops [mv 16 0,i1 17 (.bin .rem (.t 16) (.c (.int .u64 256))),i1 18 (.conv (.int .u8) (.t 17)),i1 19 (.buildSlice [(.int .u8 0)] 1 1 [(0,(.t 18))]),i1 20 (.conv .str (.t 19)),mv 21 5,i1 22 (.bin .add (.t 20) (.t 21)),mv 5 22]) (.ops [mv 23 0,i1 24 (.bin .quo (.t 23) (.c (.int .u64 256))),mv 0 24])
def d_r01_Put_3:Aaj := .seq (.ops [i1 6 (.move (k6 0))]) (.block 0 (.loop (.seq (d_r01_Put_1) (.seq (.block 1 (d_r01_Put_2)) (.ops [mv 14 6,i1 15 (.bin .add (.t 14) (k6 1)),mv 6 15])))))
def c_r01_Put:AFunc:=⟨2,26,[.tmp 4],
 .seq (.ops [i1 4 (.move (.c (.str [])))]) (.seq (.ops [i1 5 (.move (.c (.str [])))]) (.seq (d_r01_Put_3) (.seq (.ops [mv 25 5,mv 4 25]) (.ret))))⟩
def d_r03_Text_1:Aaj := .ops [mv 17 4,mv 18 3,mv 19 5,mv 20 5,i1 21 (.bin .add (.t 20) (k6 64)),i1 22 (.sliceStr (.t 18) (some (.t 19)) (some (.t 21))),i1 23 (cf f_r03_Step [(.t 17),(.t 22)]),mv 4 23]
def d_r03_Text_2:Aaj := .seq (.seq (.ops [mv 11 5,mv 12 3,i1 13 (.len true (.t 12)),i1 14 (.bin .lss (.t 11) (.t 13))]) (.cond (.t 14) (.skip) (.exit 0))) (.seq (.block 1 (d_r03_Text_1)) (.ops [mv 15 5,i1 16 (.bin .add (.t 15) (k6 64)),mv 5 16]))
def d_r03_Text_3:Aaj := .ops [mv 29 6,mv 30 7,mv 31 4,mv 32 7,i1 33 (.bin .quo (.t 32) (k6 4)),i1 34 (.iaddr 1 (.t 31) (.t 33)),i1 35 (.load false 1 (.t 34)),mv 36 7,i1 37 (.bin .rem (.t 36) (k6 4)),i1 38 (.bin .mul (k6 8) (.t 37)),i1 39 (.bin .sub (k6 24) (.t 38)),i1 40 (.bin .shr (.t 35) (.t 39)),i1 41 (.conv (.int .u8) (.t 40)),i1 42 (.iaddr 1 (.t 29) (.t 30)),i0 (.store 1 (.t 42) (.t 41))]
def d_r03_Text_4:Aaj := .seq (.seq (.ops [mv 25 7,i1 26 (.bin .lss (.t 25) (k6 32))]) (.cond (.t 26) (.skip) (.exit 2))) (.seq (.block 3 (d_r03_Text_3)) (.ops [mv 27 7,i1 28 (.bin .add (.t 27) (k6 1)),mv 7 28]))
def d_r03_Text_5:Aaj := .seq (.ops [i1 24 (.makeSlice [(.int .u8 0)] 1 1 (k6 32) (k6 32)),mv 6 24]) (.seq (.seq (.ops [i1 7 (.move (k6 0))]) (.block 2 (.loop (d_r03_Text_4)))) (.seq (.ops [mv 43 6,i1 44 (.conv .str (.t 43)),mv 2 44]) (.ret)))
def d_r03_Text_6:Aaj := .seq (.ops [mv 8 0,i1 9 (cf f_r03_Pad [(.t 8)]),mv 3 9]) (.seq (.ops [i1 10 (cf AnA []),mv 4 10]) (.seq (.seq (.ops [i1 5 (.move (k6 0))]) (.block 0 (.loop (d_r03_Text_2)))) (d_r03_Text_5)))
def AkA:AFunc:=⟨1,45,[.tmp 2],
 .seq (.ops [i1 2 (.move (.c (.str [])))]) (d_r03_Text_6)⟩
def d_hmac_pad_1:Aaj := .seq (.ops [mv 7 0,i1 8 (.len true (.t 7)),i1 9 (.bin .gtr (.t 8) (k6 64))]) (.cond (.t 9) (.ops [mv 10 0,i1 11 (.buildSlice [(.str [])] 1 1 [(0,(.t 10))]),i1 12 (cf Afg [(.t 11)]),mv 0 12]) (.skip))
def d_hmac_pad_2:Aaj := .ops [mv 19 6,i1 20 (.iaddrArr 64 1 (.t 5) (.t 19)),i1 21 (.load false 1 (.t 20)),mv 22 1,i1 23 (.bin .xor (.t 21) (.t 22)),i1 24 (.iaddrArr 64 1 (.t 5) (.t 19)),i0 (.store 1 (.t 24) (.t 23))]
def d_hmac_pad_3:Aaj := .seq (.cond (.t 17) (.skip) (.exit 0)) (.seq (.block 1 (.seq (.ops [mv 18 16,mv 6 18]) (d_hmac_pad_2))) (.ops [i1 25 (.bin .add (.t 16) (k6 1)),mv 16 25]))
def d_hmac_pad_4:Aaj := .seq (.seq (.ops [i1 16 (.move (k6 0))]) (.block 0 (.loop (.seq (.ops [i1 17 (.bin .lss (.t 16) (k6 64))]) (d_hmac_pad_3))))) (.seq (.ops [i1 26 (.sliceArr 64 1 (.t 5) none none none),i1 27 (.conv .str (.t 26)),mv 4 27]) (.ret))
def d_hmac_pad_5:Aaj := .seq (.ops [i1 5 (.alloc (zs .u8 64))]) (.seq (.ops [i1 13 (.sliceArr 64 1 (.t 5) none none none),mv 14 0,i1 15 (.copy 1 (.t 13) (.t 14))]) (d_hmac_pad_4))
def AkD:AFunc:=⟨2,28,[.tmp 4],
 .seq (.ops [i1 4 (.move (.c (.str [])))]) (.seq (d_hmac_pad_1) (d_hmac_pad_5))⟩
def d_sha_Text_1:Aaj := .seq (.ops [mv 4 0,i1 5 (cf f_sha_Sum [(.t 4)]),i1 3 (.alloc (zs .u8 32)),i0 (.store 32 (.t 3) (.t 5))]) (.seq (.ops [i1 6 (.sliceArr 32 1 (.t 3) none none none),i1 7 (.conv .str (.t 6)),mv 2 7]) (.ret))
def Aks:AFunc:=⟨1,8,[.tmp 2],
 .seq (.ops [i1 2 (.move (.c (.str [])))]) (d_sha_Text_1)⟩
def AeN:Aaj := .seq (.ops [mv 9 0,mv 10 5,i1 11 (.bin .shl (.t 9) (.t 10)),mv 12 0,mv 13 5,i1 14 (.bin .sub (.c (.int .u64 8)) (.t 13)),i1 15 (.bin .shr (.t 12) (.t 14)),i1 16 (.bin .or (.t 11) (.t 15)),mv 4 16]) (.ret)
def AaZ:AFunc:=⟨2,17,[.tmp 4],
 .seq (.ops [i1 4 (.move (.c (.int .u8 0)))]) (.seq (.ops [mv 6 1,i1 7 (.conv (.int .u64) (.t 6)),i1 8 (.bin .and (.t 7) (.c (.int .u64 7))),mv 5 8]) (AeN))⟩
def d_word_Put_1:Aaj := .seq (.ops [mv 18 5,mv 19 6,mv 20 0,i1 21 (.conv (.int .u8) (.t 20)),i1 22 (.iaddr 1 (.t 18) (.t 19)),i0 (.store 1 (.t 22) (.t 21))]) (.ops [mv 23 0,i1 24 (.bin .shr (.t 23) (.c (.int .u64 8))),mv 0 24])
def d_word_Put_2:Aaj := .seq (.seq (.ops [mv 14 6,i1 15 (.bin .geq (.t 14) (k6 0))]) (.cond (.t 15) (.skip) (.exit 0))) (.seq (.block 1 (d_word_Put_1)) (.ops [mv 16 6,i1 17 (.bin .sub (.t 16) (k6 1)),mv 6 17]))
def d_word_Put_3:Aaj := .seq (.seq (.ops [mv 11 5,i1 12 (.len false (.t 11)),i1 13 (.bin .sub (.t 12) (k6 1)),mv 6 13]) (.block 0 (.loop (d_word_Put_2)))) (.seq (.ops [mv 25 5,i1 26 (.conv .str (.t 25)),mv 4 26]) (.ret))
def d_word_Put_4:Aaj := .seq (.ops [mv 7 1,i1 8 (.maxI [(.t 7),(k6 0)]),i1 9 (.minI [(.t 8),(k6 8)]),i1 10 (.makeSlice [(.int .u8 0)] 1 1 (.t 9) (.t 9)),mv 5 10]) (d_word_Put_3)
def Akp:AFunc:=⟨2,27,[.tmp 4],
 .seq (.ops [i1 4 (.move (.c (.str [])))]) (d_word_Put_4)⟩
def Akn:Aaj := .ops [i1 7 (.makeSlice [(.int .u8 0)] 1 1 (k6 16) (k6 16)),i1 8 (.conv .str (.t 7)),i1 9 (cf Ajt [(.t 8)]),mv 6 9,i1 10 (.extract (.t 6) 0),i1 11 (.extract (.t 6) 1),i0 (.store 433 (.t 1) (.t 10))]
def Akm:Aaj := .seq (.seq (.ops [i1 3 (.faddr 0 (.t 1)),i1 4 (.load false 1 (.t 3)),i1 5 (.un .not (.t 4))]) (.cond (.t 5) (Akn) (.skip))) (.seq (.ops [i1 12 (.load true 433 (.t 1)),i0 (.store 433 (.t 2) (.t 12))]) (.ret))
def Ael:AFunc:=⟨1,13,[.cell 2 true 433],
 .seq (.ops [i1 1 (.box 433 (.t 0)),i1 2 (.alloc ([(.bool false)]++zs .u8 432))]) (Akm)⟩
def d_aes_add_1:Aaj := .draw [mv 9 5,i1 10 (.iaddrArr 16 1 (.t 2) (.t 9)),i1 11 (.load false 1 (.t 10)),mu 12 5 [0,1,2],iu 13 (.iaddrArr 16 1 (.t 3) (.t 12)) [0,1,2],iu 14 (.load false 1 (.t 13)) [0,1,2],i1 15 (.bin .xor (.t 11) (.t 14)),i1 16 (.iaddrArr 16 1 (.t 2) (.t 9)),i0 (.store 1 (.t 16) (.t 15))]
def d_aes_add_2:Aaj := .seq (.ops [i1 7 (.bin .lss (.t 6) (k6 16))]) (.seq (.cond (.t 7) (.skip) (.exit 0)) (.seq (.block 1 (.seq (.ops [mv 8 6,mv 5 8]) (d_aes_add_1))) (.ops [i1 17 (.bin .add (.t 6) (k6 1)),mv 6 17])))
def d_aes_add_3:Aaj := .seq (.seq (.ops [i1 6 (.move (k6 0))]) (.block 0 (.loop (d_aes_add_2)))) (.seq (.ops [i1 18 (.load true 16 (.t 2)),i0 (.store 16 (.t 4) (.t 18))]) (.ret))
def c_aes_add:AFunc:=⟨2,19,[.cell 4 true 16],
 .seq (.ops [i1 2 (.box 16 (.t 0)),i1 3 (.box 16 (.t 1)),i1 4 (.alloc (zs .u8 16))]) (d_aes_add_3)⟩
def AjB:Aaj := .draw [mv 10 6,mu 11 0 [0],mu 12 6 [0,1],mu 13 6 [0,1,2],iu 14 (.bin .rem (.t 13) (k6 4)) [0,1,2],iu 15 (.bin .mul (k6 4) (.t 14)) [0,1,2],iu 16 (.bin .add (.t 12) (.t 15)) [0,1],iu 17 (.bin .rem (.t 16) (k6 16)) [0,1],iu 18 (.iaddrArr 16 1 (.t 3) (.t 17)) [0,1],iu 19 (.load false 1 (.t 18)) [0,1],iu 20 (.nilCheck (.t 11)) (ur 1++ub 2 8),iu 21 (.faddr 177 (.t 20)) (ur 1++ub 2 8),iu 22 (.iaddrArr 256 1 (.t 21) (.t 19)) [0],iu 23 (.load false 1 (.t 22)) [0],i1 24 (.iaddrArr 16 1 (.t 5) (.t 10)),i0 (.store 1 (.t 24) (.t 23))]
def AjA:Aaj := .seq (.cond (.t 8) (.skip) (.exit 0)) (.seq (.block 1 (.seq (.ops [mv 9 7,mv 6 9]) (AjB))) (.ops [i1 25 (.bin .add (.t 7) (k6 1)),mv 7 25]))
def Ajz:Aaj := .seq (.seq (.ops [i1 7 (.move (k6 0))]) (.block 0 (.loop (.seq (.ops [i1 8 (.bin .lss (.t 7) (k6 16))]) (AjA))))) (.seq (.ops [i1 26 (.load true 16 (.t 5)),i0 (.store 16 (.t 4) (.t 26))]) (.ret))
def AdG:AFunc:=⟨2,27,[.cell 4 true 16],
 .seq (.ops [i1 3 (.box 16 (.t 1)),i1 4 (.alloc (zs .u8 16))]) (.seq (.ops [i1 5 (.alloc (zs .u8 16))]) (Ajz))⟩
def d_aes_mixed_1:Aaj := .draw [i1 13 (.load false 1 (.t 4)),mu 14 6 [0],iu 15 (.call (.t 14) [(k6 0)]) [0],iu 16 (cf Adc [(.t 15),(.c (.int .u8 2))]) [0],mu 17 6 (ur 4),iu 18 (.call (.t 17) [(k6 1)]) [0],iu 19 (cf Adc [(.t 18),(.c (.int .u8 3))]) [0],iu 20 (.bin .xor (.t 16) (.t 19)) [0],mu 21 6 (ur 8),iu 22 (.call (.t 21) [(k6 2)]) [0,7],iu 23 (.bin .xor (.t 20) (.t 22)) [0],mu 24 6 (ur 11),iu 25 (.call (.t 24) [(k6 3)]) [0,7,10],iu 26 (.bin .xor (.t 23) (.t 25)) [0],i1 27 (.iaddrArr 16 1 (.t 3) (.t 13)),i0 (.store 1 (.t 27) (.t 26))]
def d_aes_mixed_2:Aaj := .seq (.ops [i1 10 (.load false 1 (.t 4)),i1 11 (.bin .andNot (.t 10) (k6 3)),i1 5 (.alloc [(.int .i64 0)]),i0 (.store 1 (.t 5) (.t 11))]) (.seq (.ops [i1 12 (.makeFunc (.func Ajs) [] [(.t 1),(.t 5),(.t 4)]),mv 6 12]) (d_aes_mixed_1))
def d_aes_mixed_3:Aaj := .seq (.block 1 (.seq (.ops [mv 9 7,i1 4 (.alloc [(.int .i64 0)]),i0 (.store 1 (.t 4) (.t 9))]) (d_aes_mixed_2))) (.ops [i1 28 (.bin .add (.t 7) (k6 1)),mv 7 28])
def d_aes_mixed_4:Aaj := .seq (.ops [i1 7 (.move (k6 0))]) (.block 0 (.loop (.seq (.ops [i1 8 (.bin .lss (.t 7) (k6 16))]) (.seq (.cond (.t 8) (.skip) (.exit 0)) (d_aes_mixed_3)))))
def AiD:AFunc:=⟨1,30,[.cell 2 true 16],
 .seq (.ops [i1 1 (.box 16 (.t 0)),i1 2 (.alloc (zs .u8 16))]) (.seq (.ops [i1 3 (.alloc (zs .u8 16))]) (.seq (d_aes_mixed_4) (.seq (.ops [i1 29 (.load true 16 (.t 3)),i0 (.store 16 (.t 2) (.t 29))]) (.ret))))⟩
def d_r05_Box_1:Aaj := .ops [mv 7 1,mv 8 2,i1 9 (.conv (.int .u8) (.t 8)),i1 10 (cf Ajq [(.t 9)]),i1 11 (.buildSlice [(.int .u8 0)] 1 1 [(0,(.t 10))]),i1 12 (.appendE 5 1 1 (.t 7) (.t 11)),mv 1 12]
def d_r05_Box_2:Aaj := .seq (.seq (.ops [mv 3 2,i1 4 (.bin .lss (.t 3) (k6 256))]) (.cond (.t 4) (.skip) (.exit 0))) (.seq (.block 1 (d_r05_Box_1)) (.ops [mv 5 2,i1 6 (.bin .add (.t 5) (k6 1)),mv 2 6]))
def d_r05_Box_3:Aaj := .seq (.ops [i1 1 (.move (.c .nils))]) (.seq (.seq (.ops [i1 2 (.move (k6 0))]) (.block 0 (.loop (d_r05_Box_2)))) (.seq (.ops [mv 13 1,mv 0 13]) (.ret)))
def c_r05_Box:AFunc:=⟨0,14,[.tmp 0],
 .seq (.ops [i1 0 (.move (.c .nils))]) (d_r05_Box_3)⟩
def d_r05_Words_1:Aaj := .draw [mv 16 5,mu 17 0 [0],mu 18 6 [0,1],iu 19 (.bin .mul (k6 4) (.t 18)) [0,1],iu 20 (.idxStr (.t 17) (.t 19)) [0],mu 21 0 (ur 5),mu 22 6 (ur 6),iu 23 (.bin .mul (k6 4) (.t 22)) (ur 6),iu 24 (.bin .add (.t 23) (k6 1)) (ur 6),iu 25 (.idxStr (.t 21) (.t 24)) (ur 5),mu 26 0 (ur 10),mu 27 6 (ur 11),iu 28 (.bin .mul (k6 4) (.t 27)) (ur 11),iu 29 (.bin .add (.t 28) (k6 2)) (ur 11),iu 30 (.idxStr (.t 26) (.t 29)) (ur 10),mu 31 0 (ur 15),mu 32 6 (ur 16),iu 33 (.bin .mul (k6 4) (.t 32)) (ur 16),iu 34 (.bin .add (.t 33) (k6 3)) (ur 16),iu 35 (.idxStr (.t 31) (.t 34)) (ur 15),iu 36 (.build (zs .u8 4) [((0,1),(.t 20)),((1,1),(.t 25)),((2,1),(.t 30)),((3,1),(.t 35))]) [0],iu 37 (.buildSlice (zs .u8 4) 4 1 [(0,(.t 36))]) [0],i1 38 (.append 4 4 (.t 16) (.t 37)),mv 5 38]
def d_r05_Words_2:Aaj := .seq (.seq (.ops [mv 12 6,i1 13 (.bin .lss (.t 12) (k6 4))]) (.cond (.t 13) (.skip) (.exit 0))) (.seq (.block 1 (d_r05_Words_1)) (.ops [mv 14 6,i1 15 (.bin .add (.t 14) (k6 1)),mv 6 15]))
def d_r05_Words_3:Aaj := .seq (.draw [mv 51 1,iu 52 (.iaddrArr 4 1 (.t 9) (k6 1)) [0],iu 53 (.load false 1 (.t 52)) [0],i1 54 (.iaddr 1 (.t 51) (.t 53)),i1 55 (.load false 1 (.t 54)),mu 56 7 (ur 5),i1 57 (.bin .xor (.t 55) (.t 56)),mu 58 1 (ur 7),iu 59 (.iaddrArr 4 1 (.t 9) (k6 2)) (ur 8),iu 60 (.load false 1 (.t 59)) (ur 8),iu 61 (.iaddr 1 (.t 58) (.t 60)) (ur 7),iu 62 (.load false 1 (.t 61)) (ur 7),mu 63 1 (ur 12),iu 64 (.iaddrArr 4 1 (.t 9) (k6 3)) (ur 13),iu 65 (.load false 1 (.t 64)) (ur 13),iu 66 (.iaddr 1 (.t 63) (.t 65)) (ur 12),iu 67 (.load false 1 (.t 66)) (ur 12),mu 68 1 (ur 17),iu 69 (.iaddrArr 4 1 (.t 9) (k6 0)) (ur 18),iu 70 (.load false 1 (.t 69)) (ur 18),iu 71 (.iaddr 1 (.t 68) (.t 70)) (ur 17),iu 72 (.load false 1 (.t 71)) (ur 17),i1 73 (.build (zs .u8 4) [((0,1),(.t 57)),((1,1),(.t 62)),((2,1),(.t 67)),((3,1),(.t 72))]),i0 (.store 4 (.t 9) (.t 73))]) (.ops [mv 74 7,i1 75 (cf Abs [(.t 74),(.c (.int .u8 2))]),mv 7 75])
def d_r05_Words_4:Aaj := .draw [mv 80 11,mu 81 5 [0],mu 82 8 [0,1],iu 83 (.bin .sub (.t 82) (k6 4)) [0,1],mu 84 11 (ur 4),iu 85 (.iaddr 4 (.t 81) (.t 83)) [0,4],iu 86 (.iaddrArr 4 1 (.t 85) (.t 84)) [0],iu 87 (.load false 1 (.t 86)) [0],mu 88 11 (ur 8),iu 89 (.iaddrArr 4 1 (.t 9) (.t 88)) (ur 8),iu 90 (.load false 1 (.t 89)) (ur 8),iu 91 (.bin .xor (.t 87) (.t 90)) [0],i1 92 (.iaddrArr 4 1 (.t 10) (.t 80)),i0 (.store 1 (.t 92) (.t 91))]
def d_r05_Words_5:Aaj := .seq (.seq (.ops [mv 76 11,i1 77 (.bin .lss (.t 76) (k6 4))]) (.cond (.t 77) (.skip) (.exit 4))) (.seq (.block 5 (d_r05_Words_4)) (.ops [mv 78 11,i1 79 (.bin .add (.t 78) (k6 1)),mv 11 79]))
def d_r05_Words_6:Aaj := .seq (.seq (.ops [i1 11 (.move (k6 0))]) (.block 4 (.loop (d_r05_Words_5)))) (.ops [mv 93 5,i1 94 (.load true 4 (.t 10)),i1 95 (.buildSlice (zs .u8 4) 4 1 [(0,(.t 94))]),i1 96 (.append 4 4 (.t 93) (.t 95)),mv 5 96])
def d_r05_Words_7:Aaj := .seq (.seq (.ops [mv 48 8,i1 49 (.bin .rem (.t 48) (k6 4)),i1 50 (.bin .eql (.t 49) (k6 0))]) (.cond (.t 50) (d_r05_Words_3) (.skip))) (.seq (.ops [i1 10 (.alloc (zs .u8 4))]) (d_r05_Words_6))
def d_r05_Words_8:Aaj := .seq (.ops [mv 43 5,mv 44 8,i1 45 (.bin .sub (.t 44) (k6 1)),i1 46 (.iaddr 4 (.t 43) (.t 45)),i1 47 (.load true 4 (.t 46)),i1 9 (.alloc (zs .u8 4)),i0 (.store 4 (.t 9) (.t 47))]) (d_r05_Words_7)
def d_r05_Words_9:Aaj := .seq (.seq (.ops [mv 39 8,i1 40 (.bin .lss (.t 39) (k6 44))]) (.cond (.t 40) (.skip) (.exit 2))) (.seq (.block 3 (d_r05_Words_8)) (.ops [mv 41 8,i1 42 (.bin .add (.t 41) (k6 1)),mv 8 42]))
def d_r05_Words_10:Aaj := .seq (.ops [i1 7 (.move (.c (.int .u8 1)))]) (.seq (.seq (.ops [i1 8 (.move (k6 4))]) (.block 2 (.loop (d_r05_Words_9)))) (.seq (.ops [mv 97 5,mv 4 97]) (.ret)))
def Aiy:AFunc:=⟨2,98,[.tmp 4],
 .seq (.ops [i1 4 (.move (.c .nils))]) (.seq (.ops [i1 5 (.move (.c .nils))]) (.seq (.seq (.ops [i1 6 (.move (k6 0))]) (.block 0 (.loop (d_r05_Words_2)))) (d_r05_Words_10)))⟩
def d_r05_By_1:Aaj := .draw [mv 26 8,i1 27 (.bin .rem (.t 26) (k6 4)),mu 28 8 [0,1],iu 29 (.bin .quo (.t 28) (k6 4)) [0,1],mu 30 8 (ur 4),iu 31 (.iaddrArr 16 1 (.t 5) (.t 30)) (ur 4),iu 32 (.load false 1 (.t 31)) (ur 4),mu 33 1 (ur 7),mu 34 8 (ur 8),iu 35 (.bin .quo (.t 34) (k6 4)) (ur 8),mu 36 8 (ur 10),iu 37 (.bin .rem (.t 36) (k6 4)) (ur 10),iu 38 (.iaddr 4 (.t 33) (.t 35)) (ur 7++ub 10 2),iu 39 (.iaddrArr 4 1 (.t 38) (.t 37)) (ur 7),iu 40 (.load false 1 (.t 39)) (ur 7),iu 41 (.bin .xor (.t 32) (.t 40)) (ur 4),iu 42 (.iaddrArr 4 4 (.t 7) (.t 27)) (ub 2 14),i1 43 (.iaddrArr 4 1 (.t 42) (.t 29)),i0 (.store 1 (.t 43) (.t 41))]
def d_r05_By_2:Aaj := .seq (.seq (.ops [mv 22 8,i1 23 (.bin .lss (.t 22) (k6 16))]) (.cond (.t 23) (.skip) (.exit 0))) (.seq (.block 1 (d_r05_By_1)) (.ops [mv 24 8,i1 25 (.bin .add (.t 24) (k6 1)),mv 8 25]))
def d_r05_By_3:Aaj := .draw [mv 56 11,mu 57 12 [0],mu 58 0 [0,1],mu 59 11 [0,1,2],mu 60 12 (ur 4),mu 61 11 (ur 5),iu 62 (.bin .add (.t 60) (.t 61)) (ur 4),iu 63 (.bin .rem (.t 62) (k6 4)) (ur 4),iu 64 (.iaddrArr 4 4 (.t 7) (.t 59)) (ur 3++ub 4 4),iu 65 (.iaddrArr 4 1 (.t 64) (.t 63)) [0,1,2],iu 66 (.load false 1 (.t 65)) [0,1,2],iu 67 (.iaddr 1 (.t 58) (.t 66)) [0,1],iu 68 (.load false 1 (.t 67)) [0,1],iu 69 (.iaddrArr 4 4 (.t 10) (.t 56)) (ub 1 12),i1 70 (.iaddrArr 4 1 (.t 69) (.t 57)),i0 (.store 1 (.t 70) (.t 68))]
def d_r05_By_4:Aaj := .seq (.seq (.ops [mv 52 12,i1 53 (.bin .lss (.t 52) (k6 4))]) (.cond (.t 53) (.skip) (.exit 6))) (.seq (.block 7 (d_r05_By_3)) (.ops [mv 54 12,i1 55 (.bin .add (.t 54) (k6 1)),mv 12 55]))
def d_r05_By_5:Aaj := .seq (.seq (.ops [mv 48 11,i1 49 (.bin .lss (.t 48) (k6 4))]) (.cond (.t 49) (.skip) (.exit 4))) (.seq (.block 5 (.seq (.ops [i1 12 (.move (k6 0))]) (.block 6 (.loop (d_r05_By_4))))) (.ops [mv 50 11,i1 51 (.bin .add (.t 50) (k6 1)),mv 11 51]))
def d_r05_By_6:Aaj := .ops [mv 129 13,mv 130 14,i1 131 (cf Abs [(.t 130),(.c (.int .u8 3))]),mv 132 15,i1 133 (.bin .xor (.t 131) (.t 132)),mv 134 16,i1 135 (.bin .xor (.t 133) (.t 134)),mv 136 17,i1 137 (cf Abs [(.t 136),(.c (.int .u8 2))]),i1 138 (.bin .xor (.t 135) (.t 137)),i1 139 (.iaddrArr 4 4 (.t 10) (k6 3)),i1 140 (.iaddrArr 4 1 (.t 139) (.t 129)),i0 (.store 1 (.t 140) (.t 138))]
def d_r05_By_7:Aaj := .seq (.ops [mv 117 13,mv 118 14,mv 119 15,i1 120 (.bin .xor (.t 118) (.t 119)),mv 121 16,i1 122 (cf Abs [(.t 121),(.c (.int .u8 2))]),i1 123 (.bin .xor (.t 120) (.t 122)),mv 124 17,i1 125 (cf Abs [(.t 124),(.c (.int .u8 3))]),i1 126 (.bin .xor (.t 123) (.t 125)),i1 127 (.iaddrArr 4 4 (.t 10) (k6 2)),i1 128 (.iaddrArr 4 1 (.t 127) (.t 117)),i0 (.store 1 (.t 128) (.t 126))]) (d_r05_By_6)
def d_r05_By_8:Aaj := .seq (.ops [mv 105 13,mv 106 14,mv 107 15,i1 108 (cf Abs [(.t 107),(.c (.int .u8 2))]),i1 109 (.bin .xor (.t 106) (.t 108)),mv 110 16,i1 111 (cf Abs [(.t 110),(.c (.int .u8 3))]),i1 112 (.bin .xor (.t 109) (.t 111)),mv 113 17,i1 114 (.bin .xor (.t 112) (.t 113)),i1 115 (.iaddrArr 4 4 (.t 10) (k6 1)),i1 116 (.iaddrArr 4 1 (.t 115) (.t 105)),i0 (.store 1 (.t 116) (.t 114))]) (d_r05_By_7)
def d_r05_By_9:Aaj := .seq (.ops [mv 93 13,mv 94 14,i1 95 (cf Abs [(.t 94),(.c (.int .u8 2))]),mv 96 15,i1 97 (cf Abs [(.t 96),(.c (.int .u8 3))]),i1 98 (.bin .xor (.t 95) (.t 97)),mv 99 16,i1 100 (.bin .xor (.t 98) (.t 99)),mv 101 17,i1 102 (.bin .xor (.t 100) (.t 101)),i1 103 (.iaddrArr 4 4 (.t 10) (k6 0)),i1 104 (.iaddrArr 4 1 (.t 103) (.t 93)),i0 (.store 1 (.t 104) (.t 102))]) (d_r05_By_8)
def d_r05_By_10:Aaj := .seq (.draw [mv 77 13,iu 78 (.iaddrArr 4 4 (.t 10) (k6 0)) [0],i1 79 (.iaddrArr 4 1 (.t 78) (.t 77)),i1 80 (.load false 1 (.t 79)),mu 81 13 (ur 4),iu 82 (.iaddrArr 4 4 (.t 10) (k6 1)) (ur 5),iu 83 (.iaddrArr 4 1 (.t 82) (.t 81)) (ur 4),iu 84 (.load false 1 (.t 83)) (ur 4),mu 85 13 (ur 8),iu 86 (.iaddrArr 4 4 (.t 10) (k6 2)) (ur 9),iu 87 (.iaddrArr 4 1 (.t 86) (.t 85)) (ur 8),iu 88 (.load false 1 (.t 87)) (ur 8),mu 89 13 (ur 12),iu 90 (.iaddrArr 4 4 (.t 10) (k6 3)) (ur 13),iu 91 (.iaddrArr 4 1 (.t 90) (.t 89)) (ur 12),iu 92 (.load false 1 (.t 91)) (ur 12),mu 14 80 (ub 4 12),mu 15 84 (ub 8 8),mu 16 88 (ub 12 4),mv 17 92]) (d_r05_By_9)
def d_r05_By_11:Aaj := .seq (.seq (.ops [mv 73 13,i1 74 (.bin .lss (.t 73) (k6 4))]) (.cond (.t 74) (.skip) (.exit 8))) (.seq (.block 9 (d_r05_By_10)) (.ops [mv 75 13,i1 76 (.bin .add (.t 75) (k6 1)),mv 13 76]))
def d_r05_By_12:Aaj := .draw [mv 149 18,mu 150 19 [0],mu 151 18 [0,1],mu 152 19 [0,1,2],iu 153 (.iaddrArr 4 4 (.t 10) (.t 151)) [0,1,3],iu 154 (.iaddrArr 4 1 (.t 153) (.t 152)) [0,1],iu 155 (.load false 1 (.t 154)) [0,1],mu 156 1 (ur 7),mu 157 9 (ur 8),iu 158 (.bin .mul (k6 4) (.t 157)) (ur 8),mu 159 19 (ur 10),iu 160 (.bin .add (.t 158) (.t 159)) (ur 8),mu 161 18 (ur 12),iu 162 (.iaddr 4 (.t 156) (.t 160)) (ur 7++ub 12 1),iu 163 (.iaddrArr 4 1 (.t 162) (.t 161)) (ur 7),iu 164 (.load false 1 (.t 163)) (ur 7),iu 165 (.bin .xor (.t 155) (.t 164)) [0,1],iu 166 (.iaddrArr 4 4 (.t 7) (.t 149)) (ub 1 16),i1 167 (.iaddrArr 4 1 (.t 166) (.t 150)),i0 (.store 1 (.t 167) (.t 165))]
def d_r05_By_13:Aaj := .seq (.seq (.ops [mv 145 19,i1 146 (.bin .lss (.t 145) (k6 4))]) (.cond (.t 146) (.skip) (.exit 12))) (.seq (.block 13 (d_r05_By_12)) (.ops [mv 147 19,i1 148 (.bin .add (.t 147) (k6 1)),mv 19 148]))
def d_r05_By_14:Aaj := .seq (.block 11 (.seq (.ops [i1 19 (.move (k6 0))]) (.block 12 (.loop (d_r05_By_13))))) (.ops [mv 143 18,i1 144 (.bin .add (.t 143) (k6 1)),mv 18 144])
def d_r05_By_15:Aaj := .seq (.ops [i1 18 (.move (k6 0))]) (.block 10 (.loop (.seq (.seq (.ops [mv 141 18,i1 142 (.bin .lss (.t 141) (k6 4))]) (.cond (.t 142) (.skip) (.exit 10))) (d_r05_By_14))))
def d_r05_By_16:Aaj := .seq (.seq (.ops [mv 71 9,i1 72 (.bin .lss (.t 71) (k6 10))]) (.cond (.t 72) (.seq (.ops [i1 13 (.move (k6 0))]) (.block 8 (.loop (d_r05_By_11)))) (.skip))) (d_r05_By_15)
def d_r05_By_17:Aaj := .seq (.block 3 (.seq (.ops [i1 10 (.alloc (zs .u8 16))]) (.seq (.seq (.ops [i1 11 (.move (k6 0))]) (.block 4 (.loop (d_r05_By_5)))) (d_r05_By_16)))) (.ops [mv 46 9,i1 47 (.bin .add (.t 46) (k6 1)),mv 9 47])
def d_r05_By_18:Aaj := .seq (.ops [i1 9 (.move (k6 1))]) (.block 2 (.loop (.seq (.seq (.ops [mv 44 9,i1 45 (.bin .leq (.t 44) (k6 10))]) (.cond (.t 45) (.skip) (.exit 2))) (d_r05_By_17))))
def d_r05_By_19:Aaj := .ops [mv 172 21,mv 173 21,i1 174 (.bin .rem (.t 173) (k6 4)),mv 175 21,i1 176 (.bin .quo (.t 175) (k6 4)),i1 177 (.iaddrArr 4 4 (.t 7) (.t 174)),i1 178 (.iaddrArr 4 1 (.t 177) (.t 176)),i1 179 (.load false 1 (.t 178)),i1 180 (.iaddrArr 16 1 (.t 20) (.t 172)),i0 (.store 1 (.t 180) (.t 179))]
def d_r05_By_20:Aaj := .seq (.seq (.ops [mv 168 21,i1 169 (.bin .lss (.t 168) (k6 16))]) (.cond (.t 169) (.skip) (.exit 14))) (.seq (.block 15 (d_r05_By_19)) (.ops [mv 170 21,i1 171 (.bin .add (.t 170) (k6 1)),mv 21 171]))
def d_r05_By_21:Aaj := .seq (.seq (.ops [i1 21 (.move (k6 0))]) (.block 14 (.loop (d_r05_By_20)))) (.seq (.ops [i1 181 (.load true 16 (.t 20)),i0 (.store 16 (.t 6) (.t 181))]) (.ret))
def d_r05_By_22:Aaj := .seq (.ops [i1 7 (.alloc (zs .u8 16))]) (.seq (.seq (.ops [i1 8 (.move (k6 0))]) (.block 0 (.loop (d_r05_By_2)))) (.seq (d_r05_By_18) (.seq (.ops [i1 20 (.alloc (zs .u8 16))]) (d_r05_By_21))))
def c_r05_By:AFunc:=⟨3,182,[.cell 6 true 16],
 .seq (.ops [i1 5 (.box 16 (.t 2)),i1 6 (.alloc (zs .u8 16))]) (d_r05_By_22)⟩
def d_r03_Pad_1:Aaj := .seq (.ops [mv 14 4,i1 15 (.len false (.t 14)),i1 16 (.bin .rem (.t 15) (k6 64)),i1 17 (.bin .neq (.t 16) (k6 56))]) (.cond (.t 17) (.skip) (.exit 0))
def d_r03_Pad_2:Aaj := .seq (d_r03_Pad_1) (.block 1 (.ops [mv 18 4,i1 19 (.buildSlice [(.int .u8 0)] 1 1 [(0,(.c (.int .u8 0)))]),i1 20 (.appendE 5 1 1 (.t 18) (.t 19)),mv 4 20]))
def d_r03_Pad_3:Aaj := .ops [mv 25 4,mv 26 3,mv 27 5,i1 28 (.bin .mul (k6 8) (.t 27)),i1 29 (.bin .shr (.t 26) (.t 28)),i1 30 (.conv (.int .u8) (.t 29)),i1 31 (.buildSlice [(.int .u8 0)] 1 1 [(0,(.t 30))]),i1 32 (.appendE 5 1 1 (.t 25) (.t 31)),mv 4 32]
def d_r03_Pad_4:Aaj := .seq (.seq (.ops [mv 21 5,i1 22 (.bin .geq (.t 21) (k6 0))]) (.cond (.t 22) (.skip) (.exit 2))) (.seq (.block 3 (d_r03_Pad_3)) (.ops [mv 23 5,i1 24 (.bin .sub (.t 23) (k6 1)),mv 5 24]))
def d_r03_Pad_5:Aaj := .seq (.block 0 (.loop (d_r03_Pad_2))) (.seq (.seq (.ops [i1 5 (.move (k6 7))]) (.block 2 (.loop (d_r03_Pad_4)))) (.seq (.ops [mv 33 4,i1 34 (.conv .str (.t 33)),mv 2 34]) (.ret)))
def d_r03_Pad_6:Aaj := .seq (.ops [mv 10 0,i1 11 (.conv .bytes (.t 10)),i1 12 (.buildSlice [(.int .u8 0)] 1 1 [(0,(.c (.int .u8 128)))]),i1 13 (.appendE 5 1 1 (.t 11) (.t 12)),mv 4 13]) (d_r03_Pad_5)
def c_r03_Pad:AFunc:=⟨1,35,[.tmp 2],
 .seq (.ops [i1 2 (.move (.c (.str [])))]) (.seq (.ops [mv 6 0,i1 7 (.len true (.t 6)),i1 8 (.conv (.int .u64) (.t 7)),i1 9 (.bin .mul (.t 8) (.c (.int .u64 8))),mv 3 9]) (d_r03_Pad_6))⟩
def d_r03_Start_1:Aaj := .seq (.ops [i1 1 (.buildSlice [(.int .u32 0)] 1 8 [(0,(.c (.int .u32 1779033703))),(1,(.c (.int .u32 3144134277))),(2,(.c (.int .u32 1013904242))),(3,(.c (.int .u32 2773480762))),(4,(.c (.int .u32 1359893119))),(5,(.c (.int .u32 2600822924))),(6,(.c (.int .u32 528734635))),(7,(.c (.int .u32 1541459225)))]),mv 0 1]) (.ret)
def AiA:AFunc:=⟨0,2,[.tmp 0],
 .seq (.ops [i1 0 (.move (.c .nils))]) (d_r03_Start_1)⟩
def d_r03_Step_1:Aaj := .draw [mv 31 6,mu 32 7 [0],mu 33 6 [0,1],mu 34 7 [0,1,2],iu 35 (.iaddr 1 (.t 33) (.t 34)) [0,1],iu 36 (.load false 1 (.t 35)) [0,1],iu 37 (.bin .mul (.t 36) (.c (.int .u32 256))) [0,1],mu 38 1 (ur 7),mu 39 7 (ur 8),iu 40 (.bin .mul (k6 4) (.t 39)) (ur 8),mu 41 8 (ur 10),iu 42 (.bin .add (.t 40) (.t 41)) (ur 8),iu 43 (.idxStr (.t 38) (.t 42)) (ur 7),iu 44 (.conv (.int .u32) (.t 43)) (ur 7),iu 45 (.bin .add (.t 37) (.t 44)) [0,1],i1 46 (.iaddr 1 (.t 31) (.t 32)),i0 (.store 1 (.t 46) (.t 45))]
def d_r03_Step_2:Aaj := .seq (.seq (.ops [mv 27 8,i1 28 (.bin .lss (.t 27) (k6 4))]) (.cond (.t 28) (.skip) (.exit 2))) (.seq (.block 3 (d_r03_Step_1)) (.ops [mv 29 8,i1 30 (.bin .add (.t 29) (k6 1)),mv 8 30]))
def d_r03_Step_3:Aaj := .seq (.seq (.ops [mv 23 7,i1 24 (.bin .lss (.t 23) (k6 16))]) (.cond (.t 24) (.skip) (.exit 0))) (.seq (.block 1 (.seq (.ops [i1 8 (.move (k6 0))]) (.block 2 (.loop (d_r03_Step_2))))) (.ops [mv 25 7,i1 26 (.bin .add (.t 25) (k6 1)),mv 7 26]))
def d_r03_Step_4:Aaj := .draw [mv 91 6,mu 92 9 [0],mu 93 6 [0,1],mu 94 9 [0,1,2],iu 95 (.bin .sub (.t 94) (k6 16)) [0,1,2],iu 96 (.iaddr 1 (.t 93) (.t 95)) [0,1],iu 97 (.load false 1 (.t 96)) [0,1],mu 98 10 (ur 7),iu 99 (.bin .add (.t 97) (.t 98)) [0,1],mu 100 6 (ur 9),mu 101 9 (ur 10),iu 102 (.bin .sub (.t 101) (k6 7)) (ur 10),iu 103 (.iaddr 1 (.t 100) (.t 102)) (ur 9),iu 104 (.load false 1 (.t 103)) (ur 9),iu 105 (.bin .add (.t 99) (.t 104)) [0,1],mu 106 11 (ur 15),iu 107 (.bin .add (.t 105) (.t 106)) [0,1],i1 108 (.iaddr 1 (.t 91) (.t 92)),i0 (.store 1 (.t 108) (.t 107))]
def d_r03_Step_5:Aaj := .seq (.draw [mv 71 6,mu 72 9 [0],iu 73 (.bin .sub (.t 72) (k6 2)) [0],i1 74 (.iaddr 1 (.t 71) (.t 73)),i1 75 (.load false 1 (.t 74)),i1 76 (cf AbN [(.t 75),(k6 17)]),mu 77 6 (ur 6),mu 78 9 (ur 7),iu 79 (.bin .sub (.t 78) (k6 2)) (ur 7),iu 80 (.iaddr 1 (.t 77) (.t 79)) (ur 6),iu 81 (.load false 1 (.t 80)) (ur 6),i1 82 (cf AbN [(.t 81),(k6 19)]),i1 83 (.bin .xor (.t 76) (.t 82)),mu 84 6 (ur 13),mu 85 9 (ur 14),iu 86 (.bin .sub (.t 85) (k6 2)) (ur 14),iu 87 (.iaddr 1 (.t 84) (.t 86)) (ur 13),iu 88 (.load false 1 (.t 87)) (ur 13),iu 89 (.bin .shr (.t 88) (.c (.int .u64 10))) (ur 13),i1 90 (.bin .xor (.t 83) (.t 89)),mv 11 90]) (d_r03_Step_4)
def d_r03_Step_6:Aaj := .seq (.draw [mv 51 6,mu 52 9 [0],iu 53 (.bin .sub (.t 52) (k6 15)) [0],i1 54 (.iaddr 1 (.t 51) (.t 53)),i1 55 (.load false 1 (.t 54)),i1 56 (cf AbN [(.t 55),(k6 7)]),mu 57 6 (ur 6),mu 58 9 (ur 7),iu 59 (.bin .sub (.t 58) (k6 15)) (ur 7),iu 60 (.iaddr 1 (.t 57) (.t 59)) (ur 6),iu 61 (.load false 1 (.t 60)) (ur 6),i1 62 (cf AbN [(.t 61),(k6 18)]),i1 63 (.bin .xor (.t 56) (.t 62)),mu 64 6 (ur 13),mu 65 9 (ur 14),iu 66 (.bin .sub (.t 65) (k6 15)) (ur 14),iu 67 (.iaddr 1 (.t 64) (.t 66)) (ur 13),iu 68 (.load false 1 (.t 67)) (ur 13),iu 69 (.bin .shr (.t 68) (.c (.int .u64 3))) (ur 13),i1 70 (.bin .xor (.t 63) (.t 69)),mv 10 70]) (d_r03_Step_5)
def d_r03_Step_7:Aaj := .seq (.seq (.ops [mv 47 9,i1 48 (.bin .lss (.t 47) (k6 64))]) (.cond (.t 48) (.skip) (.exit 4))) (.seq (.block 5 (d_r03_Step_6)) (.ops [mv 49 9,i1 50 (.bin .add (.t 49) (k6 1)),mv 9 50]))
def d_r03_Step_8:Aaj := .draw [mv 224 16,mu 225 18 [0],i1 226 (.bin .add (.t 224) (.t 225)),mu 227 12 [0,1,2],iu 228 (.iaddr 1 (.t 227) (k6 0)) [0,1,2],iu 229 (.load false 1 (.t 228)) [0,1,2],mu 230 12 (ur 6),iu 231 (.iaddr 1 (.t 230) (k6 1)) (ur 6),iu 232 (.load false 1 (.t 231)) (ur 6),mu 233 12 (ur 9),iu 234 (.iaddr 1 (.t 233) (k6 2)) (ur 9),iu 235 (.load false 1 (.t 234)) (ur 9),mu 236 12 (ur 12),iu 237 (.iaddr 1 (.t 236) (k6 3)) (ur 12),iu 238 (.load false 1 (.t 237)) (ur 12),mu 239 16 (ur 15),iu 240 (.bin .add (.t 238) (.t 239)) (ur 12),mu 241 12 (ur 17),iu 242 (.iaddr 1 (.t 241) (k6 4)) (ur 17),iu 243 (.load false 1 (.t 242)) (ur 17),mu 244 12 (ur 20),iu 245 (.iaddr 1 (.t 244) (k6 5)) (ur 20),iu 246 (.load false 1 (.t 245)) (ur 20),mu 247 12 (ur 23),iu 248 (.iaddr 1 (.t 247) (k6 6)) (ur 23),iu 249 (.load false 1 (.t 248)) (ur 23),i1 250 (.buildSlice [(.int .u32 0)] 1 8 [(0,(.t 226)),(1,(.t 229)),(2,(.t 232)),(3,(.t 235)),(4,(.t 240)),(5,(.t 243)),(6,(.t 246)),(7,(.t 249))]),mv 12 250]
def d_r03_Step_9:Aaj := .seq (.draw [mv 199 17,mu 200 12 [0],iu 201 (.iaddr 1 (.t 200) (k6 0)) [0],iu 202 (.load false 1 (.t 201)) [0],mu 203 12 (ur 4),iu 204 (.iaddr 1 (.t 203) (k6 1)) (ur 4),iu 205 (.load false 1 (.t 204)) (ur 4),iu 206 (.bin .and (.t 202) (.t 205)) [0],mu 207 12 (ur 8),iu 208 (.iaddr 1 (.t 207) (k6 0)) (ur 8),iu 209 (.load false 1 (.t 208)) (ur 8),mu 210 12 (ur 11),iu 211 (.iaddr 1 (.t 210) (k6 2)) (ur 11),iu 212 (.load false 1 (.t 211)) (ur 11),iu 213 (.bin .and (.t 209) (.t 212)) (ur 8),iu 214 (.bin .xor (.t 206) (.t 213)) [0],mu 215 12 (ur 16),iu 216 (.iaddr 1 (.t 215) (k6 1)) (ur 16),iu 217 (.load false 1 (.t 216)) (ur 16),mu 218 12 (ur 19),iu 219 (.iaddr 1 (.t 218) (k6 2)) (ur 19),iu 220 (.load false 1 (.t 219)) (ur 19),iu 221 (.bin .and (.t 217) (.t 220)) (ur 16),iu 222 (.bin .xor (.t 214) (.t 221)) [0],i1 223 (.bin .add (.t 199) (.t 222)),mv 18 223]) (d_r03_Step_8)
def d_r03_Step_10:Aaj := .seq (.draw [mv 185 12,i1 186 (.iaddr 1 (.t 185) (k6 0)),i1 187 (.load false 1 (.t 186)),i1 188 (cf AbN [(.t 187),(k6 2)]),mu 189 12 (ur 4),iu 190 (.iaddr 1 (.t 189) (k6 0)) (ur 4),iu 191 (.load false 1 (.t 190)) (ur 4),i1 192 (cf AbN [(.t 191),(k6 13)]),i1 193 (.bin .xor (.t 188) (.t 192)),mu 194 12 (ur 9),iu 195 (.iaddr 1 (.t 194) (k6 0)) (ur 9),iu 196 (.load false 1 (.t 195)) (ur 9),iu 197 (cf AbN [(.t 196),(k6 22)]) [8],i1 198 (.bin .xor (.t 193) (.t 197)),mv 17 198]) (d_r03_Step_9)
def d_r03_Step_11:Aaj := .seq (.draw [mv 168 12,i1 169 (.iaddr 1 (.t 168) (k6 7)),i1 170 (.load false 1 (.t 169)),mu 171 14 [0,1,2],i1 172 (.bin .add (.t 170) (.t 171)),mu 173 15 (ur 5),i1 174 (.bin .add (.t 172) (.t 173)),mu 175 5 (ur 7),mu 176 13 (ur 8),iu 177 (.iaddr 1 (.t 175) (.t 176)) (ur 7),iu 178 (.load false 1 (.t 177)) (ur 7),i1 179 (.bin .add (.t 174) (.t 178)),mu 180 6 (ur 12),mu 181 13 (ur 13),iu 182 (.iaddr 1 (.t 180) (.t 181)) (ur 12),iu 183 (.load false 1 (.t 182)) (ur 12),i1 184 (.bin .add (.t 179) (.t 183)),mv 16 184]) (d_r03_Step_10)
def d_r03_Step_12:Aaj := .seq (.draw [mv 152 12,i1 153 (.iaddr 1 (.t 152) (k6 4)),i1 154 (.load false 1 (.t 153)),mu 155 12 [0,1,2],iu 156 (.iaddr 1 (.t 155) (k6 5)) [0,1,2],iu 157 (.load false 1 (.t 156)) [0,1,2],i1 158 (.bin .and (.t 154) (.t 157)),mu 159 12 (ur 7),iu 160 (.iaddr 1 (.t 159) (k6 4)) (ur 7),iu 161 (.load false 1 (.t 160)) (ur 7),iu 162 (.bin .sub (.c (.int .u32 4294967295)) (.t 161)) (ur 7),mu 163 12 (ur 11),iu 164 (.iaddr 1 (.t 163) (k6 6)) (ur 11),iu 165 (.load false 1 (.t 164)) (ur 11),iu 166 (.bin .and (.t 162) (.t 165)) (ur 7),i1 167 (.bin .xor (.t 158) (.t 166)),mv 15 167]) (d_r03_Step_11)
def d_r03_Step_13:Aaj := .seq (.draw [mv 138 12,i1 139 (.iaddr 1 (.t 138) (k6 4)),i1 140 (.load false 1 (.t 139)),i1 141 (cf AbN [(.t 140),(k6 6)]),mu 142 12 (ur 4),iu 143 (.iaddr 1 (.t 142) (k6 4)) (ur 4),iu 144 (.load false 1 (.t 143)) (ur 4),i1 145 (cf AbN [(.t 144),(k6 11)]),i1 146 (.bin .xor (.t 141) (.t 145)),mu 147 12 (ur 9),iu 148 (.iaddr 1 (.t 147) (k6 4)) (ur 9),iu 149 (.load false 1 (.t 148)) (ur 9),iu 150 (cf AbN [(.t 149),(k6 25)]) [8],i1 151 (.bin .xor (.t 146) (.t 150)),mv 14 151]) (d_r03_Step_12)
def d_r03_Step_14:Aaj := .seq (.seq (.ops [mv 134 13,i1 135 (.bin .lss (.t 134) (k6 64))]) (.cond (.t 135) (.skip) (.exit 6))) (.seq (.block 7 (d_r03_Step_13)) (.ops [mv 136 13,i1 137 (.bin .add (.t 136) (k6 1)),mv 13 137]))
def d_r03_Step_15:Aaj := .draw [mv 256 19,mu 257 20 [0],mu 258 0 [0,1],mu 259 20 [0,1,2],iu 260 (.iaddr 1 (.t 258) (.t 259)) [0,1],iu 261 (.load false 1 (.t 260)) [0,1],mu 262 12 (ur 6),mu 263 20 (ur 7),iu 264 (.iaddr 1 (.t 262) (.t 263)) (ur 6),iu 265 (.load false 1 (.t 264)) (ur 6),iu 266 (.bin .add (.t 261) (.t 265)) [0,1],i1 267 (.iaddr 1 (.t 256) (.t 257)),i0 (.store 1 (.t 267) (.t 266))]
def d_r03_Step_16:Aaj := .seq (.seq (.ops [mv 252 20,i1 253 (.bin .lss (.t 252) (k6 8))]) (.cond (.t 253) (.skip) (.exit 8))) (.seq (.block 9 (d_r03_Step_15)) (.ops [mv 254 20,i1 255 (.bin .add (.t 254) (k6 1)),mv 20 255]))
def d_r03_Step_17:Aaj := .seq (.ops [i1 251 (.makeSlice [(.int .u32 0)] 1 4 (k6 8) (k6 8)),mv 19 251]) (.seq (.seq (.ops [i1 20 (.move (k6 0))]) (.block 8 (.loop (d_r03_Step_16)))) (.seq (.ops [mv 268 19,mv 4 268]) (.ret)))
def d_r03_Step_18:Aaj := .seq (.draw [mv 109 0,i1 110 (.iaddr 1 (.t 109) (k6 0)),i1 111 (.load false 1 (.t 110)),mu 112 0 [0,1,2],iu 113 (.iaddr 1 (.t 112) (k6 1)) [0,1,2],iu 114 (.load false 1 (.t 113)) [0,1,2],mu 115 0 (ur 6),iu 116 (.iaddr 1 (.t 115) (k6 2)) (ur 6),iu 117 (.load false 1 (.t 116)) (ur 6),mu 118 0 (ur 9),iu 119 (.iaddr 1 (.t 118) (k6 3)) (ur 9),iu 120 (.load false 1 (.t 119)) (ur 9),mu 121 0 (ur 12),iu 122 (.iaddr 1 (.t 121) (k6 4)) (ur 12),iu 123 (.load false 1 (.t 122)) (ur 12),mu 124 0 (ur 15),iu 125 (.iaddr 1 (.t 124) (k6 5)) (ur 15),iu 126 (.load false 1 (.t 125)) (ur 15),mu 127 0 (ur 18),iu 128 (.iaddr 1 (.t 127) (k6 6)) (ur 18),iu 129 (.load false 1 (.t 128)) (ur 18),mu 130 0 (ur 21),iu 131 (.iaddr 1 (.t 130) (k6 7)) (ur 21),iu 132 (.load false 1 (.t 131)) (ur 21),i1 133 (.buildSlice [(.int .u32 0)] 1 8 [(0,(.t 111)),(1,(.t 114)),(2,(.t 117)),(3,(.t 120)),(4,(.t 123)),(5,(.t 126)),(6,(.t 129)),(7,(.t 132))]),mv 12 133]) (.seq (.seq (.ops [i1 13 (.move (k6 0))]) (.block 6 (.loop (d_r03_Step_14)))) (d_r03_Step_17))
def d_r03_Step_19:Aaj := .seq (.seq (.ops [i1 7 (.move (k6 0))]) (.block 0 (.loop (d_r03_Step_3)))) (.seq (.seq (.ops [i1 9 (.move (k6 16))]) (.block 4 (.loop (d_r03_Step_7)))) (d_r03_Step_18))
def AkB:AFunc:=⟨2,269,[.tmp 4],
 .seq (.ops [i1 4 (.move (.c .nils))]) (.seq (.ops [i1 21 (cf f_r03_K []),mv 5 21]) (.seq (.ops [i1 22 (.makeSlice [(.int .u32 0)] 1 4 (k6 64) (k6 64)),mv 6 22]) (d_r03_Step_19)))⟩
def d_sha_Sum_1:Aaj := .drawS [[i1 18 (.load true 8 (.t 3)),mu 19 5 [0],iu 20 (.sliceStr (.t 19) none (some (k6 64))) [0]],[i1 21 (cf f_sha_step [(.t 18),(.t 4),(.t 20)])],[i0 (.store 8 (.t 3) (.t 21))]]
def d_sha_Sum_2:Aaj := .seq (.seq (.ops [mv 14 5,i1 15 (.bin .neq (.t 14) (.c (.str [])))]) (.cond (.t 15) (.skip) (.exit 0))) (.seq (.block 1 (d_sha_Sum_1)) (.ops [mv 16 5,i1 17 (.sliceStr (.t 16) (some (k6 64)) none),mv 5 17]))
def d_sha_Sum_3:Aaj := .draw [mv 27 7,i1 28 (.bin .mul (k6 4) (.t 27)),i1 29 (.sliceArr 32 1 (.t 6) (some (.t 28)) none none),mu 30 8 [0,1,2],iu 31 (.conv (.int .u64) (.t 30)) [0,1,2],iu 32 (cf AcK [(.t 31),(k6 4)]) [0,1,2],i1 33 (.copy 1 (.t 29) (.t 32))]
def d_sha_Sum_4:Aaj := .seq (.block 3 (.seq (.ops [mv 25 23,i1 26 (.idxArr false 8 1 (.t 22) (.t 23)),mv 7 25,mv 8 26]) (d_sha_Sum_3))) (.ops [i1 34 (.bin .add (.t 23) (k6 1)),mv 23 34])
def d_sha_Sum_5:Aaj := .seq (.ops [i1 22 (.load true 8 (.t 3)),i1 23 (.move (k6 0))]) (.block 2 (.loop (.seq (.ops [i1 24 (.bin .lss (.t 23) (k6 8))]) (.seq (.cond (.t 24) (.skip) (.exit 2)) (d_sha_Sum_4)))))
def d_sha_Sum_6:Aaj := .seq (.seq (.ops [mv 11 0,i1 12 (cf AeK [(.t 11),(.c (.str []))]),i1 13 (cf Anu [(.t 12)]),mv 5 13]) (.block 0 (.loop (d_sha_Sum_2)))) (.seq (.ops [i1 6 (.alloc (zs .u8 32))]) (.seq (d_sha_Sum_5) (.seq (.ops [i1 35 (.load true 32 (.t 6)),i0 (.store 32 (.t 2) (.t 35))]) (.ret))))
def d_sha_Sum_7:Aaj := .seq (.ops [i1 9 (cf Anv []),i1 10 (cf f_sha_Keys []),i1 3 (.alloc (zs .u32 8)),i1 4 (.alloc (zs .u32 64)),i0 (.store 8 (.t 3) (.t 9)),i0 (.store 64 (.t 4) (.t 10))]) (d_sha_Sum_6)
def c_sha_Sum:AFunc:=⟨1,36,[.cell 2 true 32],
 .seq (.ops [i1 2 (.alloc (zs .u8 32))]) (d_sha_Sum_7)⟩
def d_aes_mixed_1_1:Aaj := .seq (.ops [i1 6 (.load false 1 (.t 2)),i1 7 (.load false 1 (.t 3)),mv 8 0,i1 9 (.bin .add (.t 7) (.t 8)),i1 10 (.bin .rem (.t 9) (k6 4)),i1 11 (.bin .add (.t 6) (.t 10)),i1 12 (.iaddrArr 16 1 (.t 1) (.t 11)),i1 13 (.load false 1 (.t 12)),mv 5 13]) (.ret)
def AfD:AFunc:=⟨4,14,[.tmp 5],
 .seq (.ops [i1 5 (.move (.c (.int .u8 0)))]) (d_aes_mixed_1_1)⟩
def d_r05_Sub_1:Aaj := .block 1 (.seq (.ops [mv 15 4,mv 16 4,i1 17 (cf Abs [(.t 15),(.t 16)]),mv 4 17]) (.ops [mv 18 3,mv 19 4,i1 20 (cf Abs [(.t 18),(.t 19)]),mv 3 20]))
def d_r05_Sub_2:Aaj := .seq (.seq (.ops [mv 11 5,i1 12 (.bin .lss (.t 11) (k6 8))]) (.cond (.t 12) (.skip) (.exit 0))) (.seq (d_r05_Sub_1) (.ops [mv 13 5,i1 14 (.bin .add (.t 13) (k6 1)),mv 5 14]))
def d_r05_Sub_3:Aaj := .seq (.draw [mv 27 6,mu 28 8 [0],i1 29 (.bin .shr (.t 27) (.t 28)),mu 30 6 [0,1,2],mu 31 8 (ur 4),iu 32 (.bin .add (.t 31) (k6 4)) (ur 4),iu 33 (.bin .rem (.t 32) (k6 8)) (ur 4),iu 34 (.bin .shr (.t 30) (.t 33)) [0,1,2],i1 35 (.bin .add (.t 29) (.t 34)),mu 36 6 (ur 9),mu 37 8 (ur 10),iu 38 (.bin .add (.t 37) (k6 5)) (ur 10),iu 39 (.bin .rem (.t 38) (k6 8)) (ur 10),iu 40 (.bin .shr (.t 36) (.t 39)) (ur 9),i1 41 (.bin .add (.t 35) (.t 40)),mu 42 6 (ur 15),mu 43 8 (ur 16),iu 44 (.bin .add (.t 43) (k6 6)) (ur 16),iu 45 (.bin .rem (.t 44) (k6 8)) (ur 16),iu 46 (.bin .shr (.t 42) (.t 45)) (ur 15),i1 47 (.bin .add (.t 41) (.t 46)),mu 48 6 (ur 21),mu 49 8 (ur 22),iu 50 (.bin .add (.t 49) (k6 7)) (ur 22),iu 51 (.bin .rem (.t 50) (k6 8)) (ur 22),iu 52 (.bin .shr (.t 48) (.t 51)) (ur 21),i1 53 (.bin .add (.t 47) (.t 52)),mu 54 8 (ur 27),iu 55 (.bin .shr (k6 99) (.t 54)) (ur 27),i1 56 (.bin .add (.t 53) (.t 55)),mv 9 56]) (.ops [mv 57 7,mv 58 9,i1 59 (.bin .rem (.t 58) (k6 2)),mv 60 8,i1 61 (.bin .shl (.t 59) (.t 60)),i1 62 (.bin .add (.t 57) (.t 61)),mv 7 62])
def d_r05_Sub_4:Aaj := .seq (.seq (.ops [mv 23 8,i1 24 (.bin .lss (.t 23) (k6 8))]) (.cond (.t 24) (.skip) (.exit 2))) (.seq (.block 3 (d_r05_Sub_3)) (.ops [mv 25 8,i1 26 (.bin .add (.t 25) (k6 1)),mv 8 26]))
def d_r05_Sub_5:Aaj := .seq (.ops [i1 7 (.move (k6 0))]) (.seq (.seq (.ops [i1 8 (.move (k6 0))]) (.block 2 (.loop (d_r05_Sub_4)))) (.seq (.ops [mv 63 7,i1 64 (.conv (.int .u8) (.t 63)),mv 2 64]) (.ret)))
def d_r05_Sub_6:Aaj := .seq (.seq (.ops [i1 5 (.move (k6 1))]) (.block 0 (.loop (d_r05_Sub_2)))) (.seq (.ops [mv 21 3,i1 22 (.conv (.int .i64) (.t 21)),mv 6 22]) (d_r05_Sub_5))
def c_r05_Sub:AFunc:=⟨1,65,[.tmp 2],
 .seq (.ops [i1 2 (.move (.c (.int .u8 0)))]) (.seq (.ops [mv 10 0,i1 3 (.move (.c (.int .u8 1))),mv 4 10]) (d_r05_Sub_6))⟩
def d_r05_Times_1:Aaj := .cond (.t 17) (.ops [mv 18 5,mv 19 0,i1 20 (.conv (.int .i64) (.t 19)),mv 21 6,i1 22 (.bin .shl (.t 20) (.t 21)),i1 23 (.bin .xor (.t 18) (.t 22)),mv 5 23]) (.skip)
def d_r05_Times_2:Aaj := .seq (.ops [mv 12 1,i1 13 (.conv (.int .i64) (.t 12)),mv 14 6,i1 15 (.bin .shr (.t 13) (.t 14)),i1 16 (.bin .rem (.t 15) (k6 2)),i1 17 (.bin .eql (.t 16) (k6 1))]) (d_r05_Times_1)
def d_r05_Times_3:Aaj := .seq (.seq (.ops [mv 8 6,i1 9 (.bin .lss (.t 8) (k6 8))]) (.cond (.t 9) (.skip) (.exit 0))) (.seq (.block 1 (d_r05_Times_2)) (.ops [mv 10 6,i1 11 (.bin .add (.t 10) (k6 1)),mv 6 11]))
def d_r05_Times_4:Aaj := .cond (.t 32) (.ops [mv 33 5,mv 34 7,i1 35 (.bin .sub (.t 34) (k6 8)),i1 36 (.bin .shl (k6 283) (.t 35)),i1 37 (.bin .xor (.t 33) (.t 36)),mv 5 37]) (.skip)
def d_r05_Times_5:Aaj := .block 3 (.seq (.ops [mv 28 5,mv 29 7,i1 30 (.bin .shr (.t 28) (.t 29)),i1 31 (.bin .rem (.t 30) (k6 2)),i1 32 (.bin .eql (.t 31) (k6 1))]) (d_r05_Times_4))
def d_r05_Times_6:Aaj := .seq (.seq (.ops [mv 24 7,i1 25 (.bin .geq (.t 24) (k6 8))]) (.cond (.t 25) (.skip) (.exit 2))) (.seq (d_r05_Times_5) (.ops [mv 26 7,i1 27 (.bin .sub (.t 26) (k6 1)),mv 7 27]))
def d_r05_Times_7:Aaj := .seq (.seq (.ops [i1 6 (.move (k6 0))]) (.block 0 (.loop (d_r05_Times_3)))) (.seq (.seq (.ops [i1 7 (.move (k6 14))]) (.block 2 (.loop (d_r05_Times_6)))) (.seq (.ops [mv 38 5,i1 39 (.conv (.int .u8) (.t 38)),mv 4 39]) (.ret)))
def Aiz:AFunc:=⟨2,40,[.tmp 4],
 .seq (.ops [i1 4 (.move (.c (.int .u8 0)))]) (.seq (.ops [i1 5 (.move (k6 0))]) (d_r05_Times_7))⟩
def d_r03_K_1:Aaj := .seq (.ops [i1 1 (.buildSlice [(.int .u32 0)] 1 64 [(0,(.c (.int .u32 1116352408))),(1,(.c (.int .u32 1899447441))),(2,(.c (.int .u32 3049323471))),(3,(.c (.int .u32 3921009573))),(4,(.c (.int .u32 961987163))),(5,(.c (.int .u32 1508970993))),(6,(.c (.int .u32 2453635748))),(7,(.c (.int .u32 2870763221))),(8,(.c (.int .u32 3624381080))),(9,(.c (.int .u32 310598401))),(10,(.c (.int .u32 607225278))),(11,(.c (.int .u32 1426881987))),(12,(.c (.int .u32 1925078388))),(13,(.c (.int .u32 2162078206))),(14,(.c (.int .u32 2614888103))),(15,(.c (.int .u32 3248222580))),(16,(.c (.int .u32 3835390401))),(17,(.c (.int .u32 4022224774))),(18,(.c (.int .u32 264347078))),(19,(.c (.int .u32 604807628))),(20,(.c (.int .u32 770255983))),(21,(.c (.int .u32 1249150122))),(22,(.c (.int .u32 1555081692))),(23,(.c (.int .u32 1996064986))),(24,(.c (.int .u32 2554220882))),(25,(.c (.int .u32 2821834349))),(26,(.c (.int .u32 2952996808))),(27,(.c (.int .u32 3210313671))),(28,(.c (.int .u32 3336571891))),(29,(.c (.int .u32 3584528711))),(30,(.c (.int .u32 113926993))),(31,(.c (.int .u32 338241895))),(32,(.c (.int .u32 666307205))),(33,(.c (.int .u32 773529912))),(34,(.c (.int .u32 1294757372))),(35,(.c (.int .u32 1396182291))),(36,(.c (.int .u32 1695183700))),(37,(.c (.int .u32 1986661051))),(38,(.c (.int .u32 2177026350))),(39,(.c (.int .u32 2456956037))),(40,(.c (.int .u32 2730485921))),(41,(.c (.int .u32 2820302411))),(42,(.c (.int .u32 3259730800))),(43,(.c (.int .u32 3345764771))),(44,(.c (.int .u32 3516065817))),(45,(.c (.int .u32 3600352804))),(46,(.c (.int .u32 4094571909))),(47,(.c (.int .u32 275423344))),(48,(.c (.int .u32 430227734))),(49,(.c (.int .u32 506948616))),(50,(.c (.int .u32 659060556))),(51,(.c (.int .u32 883997877))),(52,(.c (.int .u32 958139571))),(53,(.c (.int .u32 1322822218))),(54,(.c (.int .u32 1537002063))),(55,(.c (.int .u32 1747873779))),(56,(.c (.int .u32 1955562222))),(57,(.c (.int .u32 2024104815))),(58,(.c (.int .u32 2227730452))),(59,(.c (.int .u32 2361852424))),(60,(.c (.int .u32 2428436474))),(61,(.c (.int .u32 2756734187))),(62,(.c (.int .u32 3204031479))),(63,(.c (.int .u32 3329325298)))]),mv 0 1]) (.ret)
def c_r03_K:AFunc:=⟨0,2,[.tmp 0],
 .seq (.ops [i1 0 (.move (.c .nils))]) (d_r03_K_1)⟩
def d_r03_rotr_1:Aaj := .seq (.draw [mv 5 0,mu 6 1 [0],i1 7 (.bin .shr (.t 5) (.t 6)),mu 8 0 [0,1,2],mu 9 1 (ur 4),iu 10 (.bin .sub (k6 32) (.t 9)) (ur 4),iu 11 (.bin .shl (.t 8) (.t 10)) [0,1,2],i1 12 (.bin .or (.t 7) (.t 11)),mv 4 12]) (.ret)
def Akz:AFunc:=⟨2,13,[.tmp 4],
 .seq (.ops [i1 4 (.move (.c (.int .u32 0)))]) (d_r03_rotr_1)⟩
def d_sha_Start_1:Aaj := .seq (.ops [mv 8 6,i1 9 (.iaddr 1 (.t 4) (.t 6)),i1 10 (.load false 1 (.t 9)),mv 2 8,mv 3 10]) (.ops [mv 11 2,mv 12 3,i1 13 (cf Agy [(.t 12),(.c (.bool false))]),i1 14 (.iaddrArr 8 1 (.t 1) (.t 11)),i0 (.store 1 (.t 14) (.t 13))])
def d_sha_Start_2:Aaj := .seq (.ops [i1 7 (.bin .lss (.t 6) (.t 5))]) (.seq (.cond (.t 7) (.skip) (.exit 0)) (.seq (.block 1 (d_sha_Start_1)) (.ops [i1 15 (.bin .add (.t 6) (k6 1)),mv 6 15])))
def d_sha_Start_3:Aaj := .seq (.seq (.ops [i1 4 (cf AeB [(k6 8)]),i1 5 (.len false (.t 4)),i1 6 (.move (k6 0))]) (.block 0 (.loop (d_sha_Start_2)))) (.seq (.ops [i1 16 (.load true 8 (.t 1)),i0 (.store 8 (.t 0) (.t 16))]) (.ret))
def Aiv:AFunc:=⟨0,17,[.cell 0 true 8],
 .seq (.ops [i1 0 (.alloc (zs .u32 8))]) (.seq (.ops [i1 1 (.alloc (zs .u32 8))]) (d_sha_Start_3))⟩
def d_sha_Keys_1:Aaj := .seq (.ops [mv 8 6,i1 9 (.iaddr 1 (.t 4) (.t 6)),i1 10 (.load false 1 (.t 9)),mv 2 8,mv 3 10]) (.ops [mv 11 2,mv 12 3,i1 13 (cf Agy [(.t 12),(.c (.bool true))]),i1 14 (.iaddrArr 64 1 (.t 1) (.t 11)),i0 (.store 1 (.t 14) (.t 13))])
def d_sha_Keys_2:Aaj := .seq (.ops [i1 7 (.bin .lss (.t 6) (.t 5))]) (.seq (.cond (.t 7) (.skip) (.exit 0)) (.seq (.block 1 (d_sha_Keys_1)) (.ops [i1 15 (.bin .add (.t 6) (k6 1)),mv 6 15])))
def d_sha_Keys_3:Aaj := .seq (.seq (.ops [i1 4 (cf AeB [(k6 64)]),i1 5 (.len false (.t 4)),i1 6 (.move (k6 0))]) (.block 0 (.loop (d_sha_Keys_2)))) (.seq (.ops [i1 16 (.load true 64 (.t 1)),i0 (.store 64 (.t 0) (.t 16))]) (.ret))
def Akt:AFunc:=⟨0,17,[.cell 0 true 64],
 .seq (.ops [i1 0 (.alloc (zs .u32 64))]) (.seq (.ops [i1 1 (.alloc (zs .u32 64))]) (d_sha_Keys_3))⟩
def d_sha_Whole_1:Aaj := .seq (.ops [mv 10 0,i1 11 (.bin .add (.t 10) (.c (.str [128]))),mv 12 3,i1 13 (.bin .rem (.t 12) (k6 64)),i1 14 (cf Abk [(.c (.str [0])),(.t 13)]),i1 15 (.bin .add (.t 11) (.t 14)),mv 16 0,i1 17 (.len true (.t 16)),i1 18 (.conv (.int .u64) (.t 17)),i1 19 (.bin .mul (.c (.int .u64 8)) (.t 18)),i1 20 (cf AcK [(.t 19),(k6 8)]),i1 21 (.bin .add (.t 15) (.t 20)),mv 2 21]) (.ret)
def d_sha_Whole_2:Aaj := .seq (.ops [mv 4 0,i1 5 (.len true (.t 4)),i1 6 (.bin .add (.t 5) (k6 1)),i1 7 (.bin .add (.t 6) (k6 8)),i1 8 (.bin .rem (.t 7) (k6 64)),i1 9 (.bin .sub (k6 64) (.t 8)),mv 3 9]) (d_sha_Whole_1)
def Aiu:AFunc:=⟨1,22,[.tmp 2],
 .seq (.ops [i1 2 (.move (.c (.str [])))]) (d_sha_Whole_2)⟩
def d_sha_step_1:Aaj := .seq (.ops [mv 45 2,mv 46 16,i1 47 (.bin .mul (k6 4) (.t 46)),mv 48 16,i1 49 (.bin .mul (k6 4) (.t 48)),i1 50 (.bin .add (.t 49) (k6 4)),i1 51 (.sliceStr (.t 45) (some (.t 47)) (some (.t 50))),i1 52 (cf f_word_Get [(.t 51)]),mv 44 52,i1 53 (.extract (.t 44) 0),i1 54 (.extract (.t 44) 1),mv 17 53,mv 18 54]) (.ops [mv 55 16,mv 56 17,i1 57 (.conv (.int .u32) (.t 56)),i1 58 (.iaddrArr 64 1 (.t 7) (.t 55)),i0 (.store 1 (.t 58) (.t 57))])
def d_sha_step_2:Aaj := .draw [mv 67 16,mu 68 16 [0],iu 69 (.bin .sub (.t 68) (k6 16)) [0],iu 70 (.iaddrArr 64 1 (.t 7) (.t 69)) [0],iu 71 (.load false 1 (.t 70)) [0],mu 72 19 (ur 5),iu 73 (cf AaO [(.t 72),(k6 7)]) (ur 5),mu 74 19 (ur 7),iu 75 (cf AaO [(.t 74),(k6 18)]) (ur 5),iu 76 (.bin .xor (.t 73) (.t 75)) (ur 5),mu 77 19 (ur 10),iu 78 (.bin .shr (.t 77) (.c (.int .u64 3))) (ur 10),iu 79 (.bin .xor (.t 76) (.t 78)) (ur 5),iu 80 (.bin .add (.t 71) (.t 79)) [0],mu 81 16 (ur 14),iu 82 (.bin .sub (.t 81) (k6 7)) (ur 14),iu 83 (.iaddrArr 64 1 (.t 7) (.t 82)) (ur 14),iu 84 (.load false 1 (.t 83)) (ur 14),iu 85 (.bin .add (.t 80) (.t 84)) [0],mu 86 20 (ur 19),iu 87 (cf AaO [(.t 86),(k6 17)]) (ur 5++ub 9 10),mu 88 20 (ur 21),iu 89 (cf AaO [(.t 88),(k6 19)]) (ur 5++ub 9 10),iu 90 (.bin .xor (.t 87) (.t 89)) (ur 5++ub 9 10),mu 91 20 (ur 24),iu 92 (.bin .shr (.t 91) (.c (.int .u64 10))) (ur 24),iu 93 (.bin .xor (.t 90) (.t 92)) (ur 5++ub 9 10),iu 94 (.bin .add (.t 85) (.t 93)) [0],i1 95 (.iaddrArr 64 1 (.t 7) (.t 67)),i0 (.store 1 (.t 95) (.t 94))]
def d_sha_step_3:Aaj := .seq (.draw [mv 59 16,i1 60 (.bin .sub (.t 59) (k6 15)),i1 61 (.iaddrArr 64 1 (.t 7) (.t 60)),i1 62 (.load false 1 (.t 61)),mu 63 16 (ur 4),iu 64 (.bin .sub (.t 63) (k6 2)) (ur 4),iu 65 (.iaddrArr 64 1 (.t 7) (.t 64)) (ur 4),iu 66 (.load false 1 (.t 65)) (ur 4),mu 19 62 (ub 4 4),mv 20 66]) (d_sha_step_2)
def d_sha_step_4:Aaj := .ops [mv 142 14,mv 143 13,mv 144 12,mv 145 11,mv 146 21,i1 147 (.bin .add (.t 145) (.t 146)),mv 148 10,mv 149 9,mv 150 8,mv 151 21,mv 152 22,i1 153 (.bin .add (.t 151) (.t 152)),mv 15 142,mv 14 143,mv 13 144,mv 12 147,mv 11 148,mv 10 149,mv 9 150,mv 8 153]
def d_sha_step_5:Aaj := .seq (.ops [mv 124 8,i1 125 (cf AaO [(.t 124),(k6 2)]),mv 126 8,i1 127 (cf AaO [(.t 126),(k6 13)]),i1 128 (.bin .xor (.t 125) (.t 127)),mv 129 8,i1 130 (cf AaO [(.t 129),(k6 22)]),i1 131 (.bin .xor (.t 128) (.t 130)),mv 132 8,mv 133 9,i1 134 (.bin .and (.t 132) (.t 133)),mv 135 10,mv 136 8,mv 137 9,i1 138 (.bin .or (.t 136) (.t 137)),i1 139 (.bin .and (.t 135) (.t 138)),i1 140 (.bin .or (.t 134) (.t 139)),i1 141 (.bin .add (.t 131) (.t 140)),mv 22 141]) (d_sha_step_4)
def d_sha_step_6:Aaj := .seq (.draw [mv 96 15,mu 97 12 [0],iu 98 (cf AaO [(.t 97),(k6 6)]) [0],mu 99 12 [0,1,2],iu 100 (cf AaO [(.t 99),(k6 11)]) [0],iu 101 (.bin .xor (.t 98) (.t 100)) [0],mu 102 12 (ur 6),iu 103 (cf AaO [(.t 102),(k6 25)]) [0,5],iu 104 (.bin .xor (.t 101) (.t 103)) [0],i1 105 (.bin .add (.t 96) (.t 104)),mu 106 14 (ur 10),mu 107 12 (ur 11),mu 108 13 (ur 12),mu 109 14 (ur 13),iu 110 (.bin .xor (.t 108) (.t 109)) (ur 12),iu 111 (.bin .and (.t 107) (.t 110)) (ur 11),iu 112 (.bin .xor (.t 106) (.t 111)) (ur 10),i1 113 (.bin .add (.t 105) (.t 112)),mu 114 1 (ur 18),mu 115 16 (ur 19),iu 116 (.nilCheck (.t 114)) (ur 18++ub 19 1),iu 117 (.iaddrArr 64 1 (.t 116) (.t 115)) (ur 18),iu 118 (.load false 1 (.t 117)) (ur 18),i1 119 (.bin .add (.t 113) (.t 118)),mu 120 16 (ur 24),iu 121 (.iaddrArr 64 1 (.t 7) (.t 120)) (ur 24),iu 122 (.load false 1 (.t 121)) (ur 24),i1 123 (.bin .add (.t 119) (.t 122)),mv 21 123]) (d_sha_step_5)
def d_sha_step_7:Aaj := .seq (.ops [mv 41 39,mv 16 41]) (.seq (.seq (.ops [mv 42 16,i1 43 (.bin .lss (.t 42) (k6 16))]) (.cond (.t 43) (d_sha_step_1) (d_sha_step_3))) (d_sha_step_6))
def d_sha_step_8:Aaj := .seq (.ops [i1 40 (.bin .lss (.t 39) (k6 64))]) (.seq (.cond (.t 40) (.skip) (.exit 0)) (.seq (.block 1 (d_sha_step_7)) (.ops [i1 154 (.bin .add (.t 39) (k6 1)),mv 39 154])))
def d_sha_step_9:Aaj := .seq (.ops [i1 155 (.iaddrArr 8 1 (.t 3) (k6 0)),i1 156 (.load false 1 (.t 155)),mv 157 8,i1 158 (.bin .add (.t 156) (.t 157)),i1 159 (.iaddrArr 8 1 (.t 3) (k6 1)),i1 160 (.load false 1 (.t 159)),mv 161 9,i1 162 (.bin .add (.t 160) (.t 161)),i1 163 (.iaddrArr 8 1 (.t 3) (k6 2)),i1 164 (.load false 1 (.t 163)),mv 165 10,i1 166 (.bin .add (.t 164) (.t 165)),i1 167 (.iaddrArr 8 1 (.t 3) (k6 3)),i1 168 (.load false 1 (.t 167)),mv 169 11,i1 170 (.bin .add (.t 168) (.t 169)),i1 171 (.iaddrArr 8 1 (.t 3) (k6 4)),i1 172 (.load false 1 (.t 171)),mv 173 12,i1 174 (.bin .add (.t 172) (.t 173)),i1 175 (.iaddrArr 8 1 (.t 3) (k6 5)),i1 176 (.load false 1 (.t 175)),mv 177 13,i1 178 (.bin .add (.t 176) (.t 177)),i1 179 (.iaddrArr 8 1 (.t 3) (k6 6)),i1 180 (.load false 1 (.t 179)),mv 181 14,i1 182 (.bin .add (.t 180) (.t 181)),i1 183 (.iaddrArr 8 1 (.t 3) (k6 7)),i1 184 (.load false 1 (.t 183)),mv 185 15,i1 186 (.bin .add (.t 184) (.t 185)),i1 187 (.build (zs .u32 8) [((0,1),(.t 158)),((1,1),(.t 162)),((2,1),(.t 166)),((3,1),(.t 170)),((4,1),(.t 174)),((5,1),(.t 178)),((6,1),(.t 182)),((7,1),(.t 186))]),i0 (.store 8 (.t 6) (.t 187))]) (.ret)
def d_sha_step_10:Aaj := .seq (.draw [i1 23 (.iaddrArr 8 1 (.t 3) (k6 0)),i1 24 (.load false 1 (.t 23)),iu 25 (.iaddrArr 8 1 (.t 3) (k6 1)) [0,1],iu 26 (.load false 1 (.t 25)) [0,1],iu 27 (.iaddrArr 8 1 (.t 3) (k6 2)) (ur 4),iu 28 (.load false 1 (.t 27)) (ur 4),iu 29 (.iaddrArr 8 1 (.t 3) (k6 3)) (ur 6),iu 30 (.load false 1 (.t 29)) (ur 6),iu 31 (.iaddrArr 8 1 (.t 3) (k6 4)) (ur 8),iu 32 (.load false 1 (.t 31)) (ur 8),iu 33 (.iaddrArr 8 1 (.t 3) (k6 5)) (ur 10),iu 34 (.load false 1 (.t 33)) (ur 10),iu 35 (.iaddrArr 8 1 (.t 3) (k6 6)) (ur 12),iu 36 (.load false 1 (.t 35)) (ur 12),iu 37 (.iaddrArr 8 1 (.t 3) (k6 7)) (ur 14),iu 38 (.load false 1 (.t 37)) (ur 14),mu 8 24 (ub 2 14),mu 9 26 (ub 4 12),mu 10 28 (ub 6 10),mu 11 30 (ub 8 8),mu 12 32 (ub 10 6),mu 13 34 (ub 12 4),mu 14 36 [14,15],mv 15 38]) (.seq (.seq (.ops [i1 39 (.move (k6 0))]) (.block 0 (.loop (d_sha_step_8)))) (d_sha_step_9))
def Akr:AFunc:=⟨3,188,[.cell 6 true 8],
 .seq (.ops [i1 3 (.box 8 (.t 0)),i1 6 (.alloc (zs .u32 8))]) (.seq (.ops [i1 7 (.alloc (zs .u32 64))]) (d_sha_step_10))⟩
def d_sha_primes_1:Aaj := .seq (.seq (.ops [mv 19 6,mv 20 6,i1 21 (.bin .mul (.t 19) (.t 20)),mv 22 4,i1 23 (.bin .gtr (.t 21) (.t 22))]) (.cond (.t 23) (.exit 2) (.skip))) (.seq (.ops [mv 24 4,mv 25 6,i1 26 (.bin .rem (.t 24) (.t 25)),i1 27 (.bin .eql (.t 26) (.c (.int .u64 0)))]) (.cond (.t 27) (.exit 1) (.skip)))
def d_sha_primes_2:Aaj := .seq (.block 3 (.seq (.ops [i1 17 (.iaddr 1 (.t 13) (.t 15)),i1 18 (.load false 1 (.t 17)),mv 6 18]) (d_sha_primes_1))) (.ops [i1 28 (.bin .add (.t 15) (k6 1)),mv 15 28])
def d_sha_primes_3:Aaj := .seq (.ops [mv 13 3,i1 14 (.len false (.t 13)),i1 15 (.move (k6 0))]) (.block 2 (.loop (.seq (.ops [i1 16 (.bin .lss (.t 15) (.t 14))]) (.seq (.cond (.t 16) (.skip) (.exit 2)) (d_sha_primes_2)))))
def d_sha_primes_4:Aaj := .block 1 (.seq (d_sha_primes_3) (.ops [mv 29 3,mv 30 4,i1 31 (.buildSlice [(.int .u64 0)] 1 1 [(0,(.t 30))]),i1 32 (.append 1 8 (.t 29) (.t 31)),mv 3 32]))
def d_sha_primes_5:Aaj := .seq (.seq (.ops [mv 7 3,i1 8 (.len false (.t 7)),mv 9 0,i1 10 (.bin .lss (.t 8) (.t 9))]) (.cond (.t 10) (.skip) (.exit 0))) (.seq (d_sha_primes_4) (.ops [mv 11 4,i1 12 (.bin .add (.t 11) (.c (.int .u64 1))),mv 4 12]))
def d_sha_primes_6:Aaj := .seq (.ops [i1 3 (.move (.c .nils))]) (.seq (.skip) (.seq (.seq (.ops [i1 4 (.move (.c (.int .u64 2)))]) (.block 0 (.loop (d_sha_primes_5)))) (.seq (.ops [mv 33 3,mv 2 33]) (.ret))))
def All:AFunc:=⟨1,34,[.tmp 2],
 .seq (.ops [i1 2 (.move (.c .nils))]) (d_sha_primes_6)⟩
def d_sha_behind_1:Aaj := .ops [mv 34 8,mv 35 7,i1 36 (.bin .mul (.t 34) (.t 35)),mv 37 11,i1 38 (.bin .add (.t 36) (.t 37)),mv 39 12,mv 40 0,i1 41 (.bin .shl (.t 40) (.c (.int .u64 32))),mv 8 38,mv 9 39,mv 10 41]
def d_sha_behind_2:Aaj := .seq (.ops [mv 29 9,mv 30 7,i1 31 (cf Adb [(.t 29),(.t 30)]),mv 28 31,i1 32 (.extract (.t 28) 0),i1 33 (.extract (.t 28) 1),mv 11 32,mv 12 33]) (d_sha_behind_1)
def d_sha_behind_3:Aaj := .seq (.ops [mv 42 8,mv 43 10,i1 44 (.bin .lss (.t 42) (.t 43)),mv 45 44,ig 46 (.move (.t 8)) 45 false,ig 47 (.move (.t 10)) 45 false,ig 48 (.bin .eql (.t 46) (.t 47)) 45 false,ig 49 (.move (.t 48)) 45 false,ig 50 (.move (.t 9)) 49 true,ig 51 (.bin .eql (.t 50) (.c (.int .u64 0))) 49 true,ig 52 (.pick (.t 49) (.t 51) (.c (.bool false))) 45 false,i1 53 (.pick (.t 45) (.c (.bool true)) (.t 52))]) (.cond (.t 53) (.ops [mv 54 7,mv 5 54]) (.skip))
def d_sha_behind_4:Aaj := .seq (.ops [mv 21 7,mv 22 7,i1 23 (cf Adb [(.t 21),(.t 22)]),mv 20 23,i1 24 (.extract (.t 20) 0),i1 25 (.extract (.t 20) 1),mv 8 24,mv 9 25]) (.seq (.ops [mv 26 0,mv 10 26]) (.seq (.seq (.ops [mv 27 1]) (.cond (.t 27) (d_sha_behind_2) (.skip))) (d_sha_behind_3)))
def d_sha_behind_5:Aaj := .seq (.block 1 (.seq (.ops [mv 17 5,mv 18 6,i1 19 (.bin .or (.t 17) (.t 18)),mv 7 19]) (d_sha_behind_4))) (.ops [mv 15 6,i1 16 (.bin .shr (.t 15) (.c (.int .u64 1))),mv 6 16])
def d_sha_behind_6:Aaj := .seq (.ops [i1 6 (.move (.c (.int .u64 68719476736)))]) (.block 0 (.loop (.seq (.seq (.ops [mv 13 6,i1 14 (.bin .gtr (.t 13) (.c (.int .u64 0)))]) (.cond (.t 14) (.skip) (.exit 0))) (d_sha_behind_5))))
def AgS:AFunc:=⟨2,57,[.tmp 4],
 .seq (.ops [i1 4 (.move (.c (.int .u32 0)))]) (.seq (.ops [i1 5 (.move (.c (.int .u64 0)))]) (.seq (d_sha_behind_6) (.seq (.ops [mv 55 5,i1 56 (.conv (.int .u32) (.t 55)),mv 4 56]) (.ret))))⟩
def d_word_Get_1:Aaj := .seq (.ops [mv 10 0,i1 11 (.len true (.t 10)),i1 12 (.bin .gtr (.t 11) (k6 8)),mv 9 12]) (.cond (.t 9) (.seq (.ops [i1 2 (.move (.c (.int .u64 0))),i1 3 (.move (k6 5))]) (.ret)) (.skip))
def d_word_Get_2:Aaj := .seq (.ops [mv 7 0,i1 8 (.bin .eql (.t 7) (.c (.str []))),mv 6 8]) (.cond (.t 6) (.seq (.ops [i1 2 (.move (.c (.int .u64 0))),i1 3 (.move (k6 3))]) (.ret)) (d_word_Get_1))
def d_word_Get_3:Aaj := .ops [mv 18 4,i1 19 (.bin .shl (.t 18) (.c (.int .u64 8))),mv 20 0,mv 21 5,i1 22 (.idxStr (.t 20) (.t 21)),i1 23 (.conv (.int .u64) (.t 22)),i1 24 (.bin .or (.t 19) (.t 23)),mv 4 24]
def d_word_Get_4:Aaj := .seq (.cond (.t 16) (.skip) (.exit 1)) (.seq (.block 2 (.seq (.ops [mv 17 15,mv 5 17]) (d_word_Get_3))) (.ops [i1 25 (.bin .add (.t 15) (k6 1)),mv 15 25]))
def d_word_Get_5:Aaj := .seq (.ops [mv 13 0,i1 14 (.len true (.t 13)),i1 15 (.move (k6 0))]) (.block 1 (.loop (.seq (.ops [i1 16 (.bin .lss (.t 15) (.t 14))]) (d_word_Get_4))))
def d_word_Get_6:Aaj := .seq (.block 0 (d_word_Get_2)) (.seq (.ops [i1 4 (.move (.c (.int .u64 0)))]) (.seq (d_word_Get_5) (.seq (.ops [mv 26 4,mv 2 26,i1 3 (.move (k6 0))]) (.ret))))
def Akq:AFunc:=⟨1,27,[.tmp 2,.tmp 3],
 .seq (.ops [i1 2 (.move (.c (.int .u64 0))),i1 3 (.move (k6 0))]) (d_word_Get_6)⟩
def Ait:AFunc:=⟨2,9,[.tmp 4],
 .seq (.ops [i1 4 (.move (.c (.int .u32 0)))]) (.seq (.ops [mv 5 0,mv 6 1,i1 7 (.un .neg (.t 6)),i1 8 (cf AcL [(.t 5),(.t 7)]),mv 4 8]) (.ret))⟩
def Aik:Aaj := .seq (.ops [mv 40 7,mv 41 9,i1 42 (.bin .mul (.t 40) (.t 41)),mv 43 13,i1 44 (.bin .add (.t 42) (.t 43)),mv 45 12,i1 46 (.bin .shr (.t 45) (.c (.int .u64 32))),i1 47 (.bin .add (.t 44) (.t 46)),mv 4 47]) (.seq (.ops [mv 48 0,mv 49 1,i1 50 (.bin .mul (.t 48) (.t 49)),mv 5 50]) (.ret))
def Aij:Aaj := .seq (.ops [mv 33 11,i1 34 (.bin .shr (.t 33) (.c (.int .u64 32))),mv 13 34]) (.seq (.ops [mv 35 12,mv 36 6,mv 37 9,i1 38 (.bin .mul (.t 36) (.t 37)),i1 39 (.bin .add (.t 35) (.t 38)),mv 12 39]) (Aik))
def Aii:Aaj := .seq (.ops [mv 25 7,mv 26 8,i1 27 (.bin .mul (.t 25) (.t 26)),mv 28 10,i1 29 (.bin .shr (.t 28) (.c (.int .u64 32))),i1 30 (.bin .add (.t 27) (.t 29)),mv 11 30]) (.seq (.ops [mv 31 11,i1 32 (.bin .and (.t 31) (.c (.int .u64 4294967295))),mv 12 32]) (Aij))
def Aih:Aaj := .seq (.ops [mv 20 1,i1 21 (.bin .shr (.t 20) (.c (.int .u64 32))),mv 9 21]) (.seq (.ops [mv 22 6,mv 23 8,i1 24 (.bin .mul (.t 22) (.t 23)),mv 10 24]) (Aii))
def Aig:Aaj := .seq (.ops [mv 16 0,i1 17 (.bin .shr (.t 16) (.c (.int .u64 32))),mv 7 17]) (.seq (.ops [mv 18 1,i1 19 (.bin .and (.t 18) (.c (.int .u64 4294967295))),mv 8 19]) (Aih))
def Adf:AFunc:=⟨2,51,[.tmp 4,.tmp 5],
 .seq (.ops [i1 4 (.move (.c (.int .u64 0))),i1 5 (.move (.c (.int .u64 0)))]) (.seq (.ops [mv 14 0,i1 15 (.bin .and (.t 14) (.c (.int .u64 4294967295))),mv 6 15]) (Aig))⟩
def Aeq:Aaj := .seq (.ops [mv 9 0,mv 10 5,i1 11 (.bin .shl (.t 9) (.t 10)),mv 12 0,mv 13 5,i1 14 (.bin .sub (.c (.int .u64 32)) (.t 13)),i1 15 (.bin .shr (.t 12) (.t 14)),i1 16 (.bin .or (.t 11) (.t 15)),mv 4 16]) (.ret)
def AbP:AFunc:=⟨2,17,[.tmp 4],
 .seq (.ops [i1 4 (.move (.c (.int .u32 0)))]) (.seq (.ops [mv 6 1,i1 7 (.conv (.int .u64) (.t 6)),i1 8 (.bin .and (.t 7) (.c (.int .u64 31))),mv 5 8]) (Aeq))⟩
end Go.Eng.Ses
namespace Go.Eng.Ses
open Go Go.Eng
def AP0:AaB where
 fn n:=match n with
  | 179=>some Aku
  | 238=>some Aej
  | 408=>some Aek
  | 533=>some Akw
  | 282=>some AfC
  | 283=>some c_aes_New
  | 336=>some AdF
  | 337=>some AkF
  | 338=>some AeP
  | 499=>some AiB
  | 575=>some AgV
  | 574=>some Aky
  | 577=>some Akx
  | 576=>some c_r04_Sum
  | 370=>some AkE
  | 371=>some c_aes_Box
  | 372=>some AiE
  | 447=>some AiC
  | 446=>some Adg
  | 340=>some Aiw
  | 607=>some AgU
  | 531=>some c_r01_Put
  | 608=>some AkA
  | 481=>some AkD
  | 374=>some Aks
  | 482=>some AaZ
  | 334=>some Akp
  | 513=>some Ael
  | 514=>some c_aes_add
  | 515=>some AdG
  | 516=>some AiD
  | 626=>some c_r05_Box
  | 627=>some Aiy
  | 628=>some c_r05_By
  | 629=>some c_r03_Pad
  | 630=>some AiA
  | 631=>some AkB
  | 483=>some c_sha_Sum
  | 565=>some AfD
  | 658=>some c_r05_Sub
  | 659=>some Aiz
  | 660=>some c_r03_K
  | 661=>some Akz
  | 545=>some Aiv
  | 546=>some Akt
  | 547=>some Aiu
  | 548=>some Akr
  | 594=>some All
  | 595=>some AgS
  | 373=>some Akq
  | 596=>some Ait
  | 265=>some Adf
  | 622=>some AbP
  | _=>none
 keep _:=false
 prim _:=none
 split n:=n == 548 || n == 515 || n == 565
 pure n:=match n with
  | 83=>some AdZ
  | 131=>some joinG
  | _=>none
 slim:=true
end Go.Eng.Ses
