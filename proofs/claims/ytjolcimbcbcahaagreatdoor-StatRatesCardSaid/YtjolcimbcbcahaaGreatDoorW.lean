/- The law's functions are walked: what each answers; no condition. -/
import Derived.Test.YtjolcimbcbcahaaGreatDoorC1
import Derived.Test.YtjolcimbcbcahaaGreatDoorE6
import Derived.Test.YtjolcimbcbcahaaGreatDoorV
import Derived.KernelRfl
import Derived.Test.YtjolcimbcbcahaaGreatDoorE4
set_option linter.unusedSectionVars false
set_option linter.unusedVariables false
set_option linter.unusedSimpArgs false
set_option linter.unnecessarySimpa false
namespace Go.Eng.St
abbrev f_l34_StatRates:Nat:=8
abbrev Aub:Nat:=50
abbrev Abu:Nat:=51
abbrev Afv:Nat:=52
abbrev Agi:Nat:=53
abbrev AeO:Nat:=31
abbrev Abz:Nat:=132
abbrev AhX:Nat:=134
abbrev BaO:Nat:=59
abbrev AwC:Nat:=49
abbrev AgL:Nat:=133
abbrev Agn:Nat:=136
abbrev AeP:Nat:=137
end Go.Eng.St
namespace Go.Eng.St
open Go Go.Eng
def d_l34_StatRates_1:Aam := .seq (.ops [mv 17 1,i1 18 (.len true (.t 17)),i1 19 (.bin .gtr (.t 18) (k6 100))]) (.cond (.t 19) (.seq (.ops [i1 8 (.move (.c (.bool true)))]) (.ret)) (.skip))
def d_l34_StatRates_2:Aam := .seq (.ops [mv 32 10,i1 33 (.bin .eql (.t 32) (.c (.int .u64 0))),mv 34 33,ig 35 (.move (.t 12)) 34 true,ig 36 (.move (.t 12)) 34 true,ig 37 (.bin .eql (.t 35) (.t 36)) 34 true,i1 38 (.pick (.t 34) (.t 37) (.c (.bool false))),mv 39 38,ig 40 (.move (.t 10)) 39 false,ig 41 (.bin .gtr (.t 40) (.c (.int .u64 0))) 39 false,ig 42 (.move (.t 41)) 39 false,ig 43 (.move (.t 12)) 42 true,ig 44 (.bin .neq (.t 43) (.c (.flt .f64 4602678819172646912))) 42 true,ig 45 (.pick (.t 42) (.t 44) (.c (.bool false))) 39 false,i1 46 (.pick (.t 39) (.c (.bool true)) (.t 45))]) (.cond (.t 46) (.seq (.ops [i1 8 (.move (.c (.bool false)))]) (.ret)) (.skip))
def d_l34_StatRates_3:Aam := .seq (.ops [i1 59 (.load true 14 (.t 9)),mv 60 1,i1 61 (cf Agi [(.t 59),(.t 60),(.c (.int .u64 1))]),mv 62 10,i1 63 (.conv (.flt .f64) (.t 62)),i1 64 (.bin .eql (.t 61) (.t 63)),mv 65 64,ig 66 (.move (.t 2)) 65 true,ig 67 (.move (.t 3)) 65 true,ig 68 (.minI [(.t 66),(.t 67)]) 65 true,ig 69 (.bin .eql (.t 68) (.c (.int .u64 0))) 65 true,ig 70 (.move (.t 69)) 65 true,ig 71 (.move (.t 14)) 70 false,ig 72 (.move (.t 13)) 70 false,ig 73 (.bin .leq (.t 71) (.t 72)) 70 false,ig 74 (.pick (.t 70) (.c (.bool true)) (.t 73)) 65 true,i1 75 (.pick (.t 65) (.t 74) (.c (.bool false))),mv 76 75,ig 77 (.move (.t 2)) 76 true,ig 78 (.move (.t 3)) 76 true,ig 79 (.minI [(.t 77),(.t 78)]) 76 true,ig 80 (.bin .gtr (.t 79) (.c (.int .u64 0))) 76 true,ig 81 (.move (.t 80)) 76 true,ig 82 (.move (.t 10)) 81 false,ig 83 (.bin .gtr (.t 82) (.c (.int .u64 0))) 81 false,ig 84 (.move (.t 13)) 81 false,ig 85 (cf AeO [(.t 84),(k6 1)]) 81 false,ig 86 (.eqB false (.t 83) (.t 85)) 81 false,ig 87 (.pick (.t 81) (.c (.bool true)) (.t 86)) 76 true,i1 88 (.pick (.t 76) (.t 87) (.c (.bool false))),mv 8 88]) (.ret)
def d_l34_StatRates_4:Aam := .seq (.drawS [[i1 47 (.load true 14 (.t 9)),mu 48 1 [0],mu 49 2 [0,1],mu 50 3 [0,1,2],iu 51 (.minI [(.t 49),(.t 50)]) [0,1],i1 52 (cf Agi [(.t 47),(.t 48),(.t 51)]),iu 53 (.load true 14 (.t 9)) (ur 6),mu 54 1 (ur 7),mu 55 2 (ur 8),mu 56 3 (ur 9),iu 57 (.maxI [(.t 55),(.t 56)]) (ur 8)],[i1 58 (cf Agi [(.t 53),(.t 54),(.t 57)])],[mv 13 52],[mv 14 58]]) (d_l34_StatRates_3)
def d_l34_StatRates_5:Aam := .seq (.ops [i1 28 (.load true 14 (.t 9)),mv 29 1,mv 30 1,i1 31 (cf Afv [(.t 28),(.t 29),(.t 30)]),mv 12 31]) (.seq (d_l34_StatRates_2) (d_l34_StatRates_4))
def d_l34_StatRates_6:Aam := .seq (.ops [i1 23 (.load true 14 (.t 9)),mv 24 1,i1 25 (cf Abu [(.t 23),(.t 24)]),mv 22 25,i1 26 (.extract (.t 22) 0),i1 27 (.extract (.t 22) 1),mv 10 26,mv 11 27]) (d_l34_StatRates_5)
def d_l34_StatRates_7:Aam := .seq (d_l34_StatRates_1) (.seq (.ops [i1 20 (.load true 14 (.t 4)),i1 21 (cf Aub [(.t 20)]),i1 9 (.alloc (zs .u64 14)),i0 (.store 14 (.t 9) (.t 21))]) (d_l34_StatRates_6))
def d_l34_StatRates_8:Aam := .seq (.seq (.ops [i1 15 (cf AwC []),i1 16 (.un .not (.t 15))]) (.cond (.t 16) (.seq (.ops [i1 8 (.move (.c (.bool false)))]) (.ret)) (.skip))) (d_l34_StatRates_7)
def c_l34_StatRates:AFunc:=⟨4,89,[.tmp 8],
 .seq (.ops [i1 4 (.box 14 (.t 0)),i1 8 (.move (.c (.bool false)))]) (d_l34_StatRates_8)⟩
def AwE:Aam := .seq (.ops [i1 3 (.faddr 0 (.t 1)),i1 4 (.load false 1 (.t 3)),i1 5 (.faddr 1 (.t 1)),i1 6 (.load false 1 (.t 5)),i1 7 (.faddr 2 (.t 1)),i1 8 (.load false 1 (.t 7)),i1 9 (.faddr 3 (.t 1)),i1 10 (.load false 1 (.t 9)),i1 11 (.faddr 4 (.t 1)),i1 12 (.load false 1 (.t 11)),i1 13 (.faddr 5 (.t 1)),i1 14 (.load false 1 (.t 13)),i1 15 (.faddr 6 (.t 1)),i1 16 (.load false 1 (.t 15)),i1 17 (.faddr 7 (.t 1)),i1 18 (.load false 1 (.t 17)),i1 19 (.faddr 8 (.t 1)),i1 20 (.load false 1 (.t 19)),i1 21 (.faddr 9 (.t 1)),i1 22 (.load false 1 (.t 21)),i1 23 (.faddr 10 (.t 1)),i1 24 (.load false 1 (.t 23)),i1 25 (.faddr 11 (.t 1)),i1 26 (.load false 1 (.t 25)),i1 27 (.faddr 12 (.t 1)),i1 28 (.load false 1 (.t 27)),i1 29 (.faddr 13 (.t 1)),i1 30 (.load false 1 (.t 29)),i1 31 (.build (zs .u64 14) [((0,1),(.t 4)),((1,1),(.t 6)),((2,1),(.t 8)),((3,1),(.t 10)),((4,1),(.t 12)),((5,1),(.t 14)),((6,1),(.t 16)),((7,1),(.t 18)),((8,1),(.t 20)),((9,1),(.t 22)),((10,1),(.t 24)),((11,1),(.t 26)),((12,1),(.t 28)),((13,1),(.t 30))]),i1 32 (.build (zs .u64 14) [((0,14),(.t 31))]),i0 (.store 14 (.t 2) (.t 32))]) (.ret)
def AnW:AFunc:=⟨1,33,[.cell 2 true 14],
 .seq (.ops [i1 1 (.box 14 (.t 0)),i1 2 (.alloc (zs .u64 14))]) (AwE)⟩
def AkE:Aam := .seq (.ops [mv 10 6,i1 11 (.bin .lss (.t 10) (k6 0))]) (.cond (.t 11) (.seq (.ops [i1 4 (.move (.c (.int .u64 0))),i1 5 (.move (.c (.bool false)))]) (.ret)) (.skip))
def AkD:Aam := .seq (.ops [mv 12 6,i1 13 (.faddr 0 (.t 2)),i1 14 (.iaddrArr 14 1 (.t 13) (.t 12)),i1 15 (.load false 1 (.t 14)),mv 4 15,i1 5 (.move (.c (.bool true)))]) (.ret)
def Ada:AFunc:=⟨2,16,[.tmp 4,.tmp 5],
 .seq (.ops [i1 2 (.box 14 (.t 0)),i1 4 (.move (.c (.int .u64 0))),i1 5 (.move (.c (.bool false)))]) (.seq (.ops [i1 7 (cf AgL []),mv 8 1,i1 9 (cf Abz [(.t 7),(.t 8)]),mv 6 9]) (.seq (AkE) (AkD)))⟩
def Aid:Aam := .seq (.ops [i1 18 (.load true 14 (.t 3)),mv 19 2,i1 20 (cf Abu [(.t 18),(.t 19)]),mv 17 20,i1 21 (.extract (.t 17) 0),i1 22 (.extract (.t 17) 1),mv 9 21,mv 10 22]) (.seq (.ops [mv 23 7,mv 24 9,i1 25 (cf AhX [(.t 23),(.t 24)]),mv 6 25]) (.ret))
def Aic:Aam := .seq (.ops [i1 12 (.load true 14 (.t 3)),mv 13 1,i1 14 (cf Abu [(.t 12),(.t 13)]),mv 11 14,i1 15 (.extract (.t 11) 0),i1 16 (.extract (.t 11) 1),mv 7 15,mv 8 16]) (Aid)
def Adk:AFunc:=⟨3,26,[.tmp 6],
 .seq (.ops [i1 3 (.box 14 (.t 0)),i1 6 (.move (.c (.flt .f64 0)))]) (Aic)⟩
def AjB:Aam := .seq (.ops [mv 15 7,i1 16 (.conv (.flt .f64) (.t 15)),mv 17 2,i1 18 (.conv (.flt .f64) (.t 17)),i1 19 (.bin .quo (.t 16) (.t 18)),mv 6 19]) (.ret)
def AjA:Aam := .seq (.ops [i1 10 (.load true 14 (.t 3)),mv 11 1,i1 12 (cf Abu [(.t 10),(.t 11)]),mv 9 12,i1 13 (.extract (.t 9) 0),i1 14 (.extract (.t 9) 1),mv 7 13,mv 8 14]) (AjB)
def AdP:AFunc:=⟨3,20,[.tmp 6],
 .seq (.ops [i1 3 (.box 14 (.t 0)),i1 6 (.move (.c (.flt .f64 0)))]) (AjA)⟩
def AoW:Aam := .cond (.t 6) (.ops [mv 7 0,i1 8 (cf BaO [(.t 7)]),mv 0 8]) (.seq (.ops [mv 9 1,i1 10 (.bin .lss (.t 9) (k6 0))]) (.cond (.t 10) (.ops [mv 11 0,i1 12 (.un .neg (.t 11)),mv 0 12]) (.skip)))
def AoV:Aam := .seq (.seq (.ops [mv 5 1,i1 6 (.bin .eql (.t 5) (k6 0))]) (AoW)) (.seq (.ops [mv 13 0,i1 14 (.bin .gtr (.t 13) (.c (.flt .f64 9218868437227405311))),mv 4 14]) (.ret))
def AeS:AFunc:=⟨2,15,[.tmp 4],
 .seq (.ops [i1 4 (.move (.c (.bool false)))]) (AoV)⟩
def AdF:Aam := .seq (.ops [mv 11 1,mv 12 0,mv 13 5,i1 14 (.iaddr 1 (.t 12) (.t 13)),i1 15 (.load false 1 (.t 14)),i1 16 (.bin .eql (.t 11) (.t 15))]) (.cond (.t 16) (.seq (.ops [mv 17 5,mv 4 17]) (.ret)) (.skip))
def AdE:Aam := .seq (.cond (.t 9) (.skip) (.exit 0)) (.seq (.block 1 (.seq (.ops [mv 10 8,mv 5 10]) (AdF))) (.ops [i1 18 (.bin .add (.t 8) (k6 1)),mv 8 18]))
def AdD:Aam := .seq (.ops [mv 6 0,i1 7 (.len false (.t 6)),i1 8 (.move (k6 0))]) (.block 0 (.loop (.seq (.ops [i1 9 (.bin .lss (.t 8) (.t 7))]) (AdE))))
def AbA:AFunc:=⟨2,19,[.tmp 4],
 .seq (.ops [i1 4 (.move (k6 0))]) (.seq (AdD) (.seq (.ops [i1 4 (.move (k6 (-1)))]) (.ret)))⟩
def Aro:Aam := .seq (.ops [mv 7 0,i1 8 (.conv (.flt .f64) (.t 7)),mv 9 1,i1 10 (.conv (.flt .f64) (.t 9)),mv 5 8,mv 6 10]) (.seq (.ops [mv 11 5,mv 12 5,mv 13 6,i1 14 (.bin .add (.t 12) (.t 13)),i1 15 (.bin .quo (.t 11) (.t 14)),mv 4 15]) (.ret))
def Aeu:AFunc:=⟨2,16,[.tmp 4],
 .seq (.ops [i1 4 (.move (.c (.flt .f64 0)))]) (Aro)⟩
def Aqa:AFunc:=⟨1,7,[.tmp 2],
 .seq (.ops [i1 2 (.move (.c (.flt .f64 0)))]) (.seq (.ops [mv 3 0,i1 4 (cf AeP [(.t 3)]),i1 5 (.bin .andNot (.t 4) (.c (.int .u64 9223372036854775808))),i1 6 (cf Agn [(.t 5)]),mv 2 6]) (.ret))⟩
def fnS (n:Nat):Option AFunc:=(bif Nat.blt n 52 then (bif Nat.blt n 50 then (bif Nat.blt n 31 then (bif Nat.beq n 8 then some c_l34_StatRates else none) else (bif Nat.beq n 31 then some AeS else none)) else (bif Nat.blt n 51 then (bif Nat.beq n 50 then some AnW else none) else (bif Nat.beq n 51 then some Ada else none))) else (bif Nat.blt n 59 then (bif Nat.blt n 53 then (bif Nat.beq n 52 then some Adk else none) else (bif Nat.beq n 53 then some AdP else none)) else (bif Nat.blt n 132 then (bif Nat.beq n 59 then some Aqa else none) else (bif Nat.blt n 134 then (bif Nat.beq n 132 then some AbA else none) else (bif Nat.beq n 134 then some Aeu else none)))))
def nameL:List (List UInt8):=[[111,112,101,110,101,100],[102,117,108,108],[114,101,102,117,115,101,100],[98,97,100],[117,110,107,110,111,119,110],[101,109,112,116,121],[100,114,111,112,112,101,100],[114,101,106,101,99,116,101,100],[97,99,99,101,112,116,101,100],[115,101,110,116],[108,111,115,116],[99,108,111,115,101,100],[114,101,97,112,101,100],[102,111,114,99,101,100]]
def namesV:AVal := .imm (nameL.map fun s=>[.str s])
def pureS (n:Nat):Option (List AVal→Option AVal):=bif Nat.beq n 49 then some (fun l=>match l with
 | []=>some (.bool true)
 | _=>none) else bif Nat.beq n 133 then some (fun l=>match l with
 | []=>some namesV
 | _=>none) else bif Nat.beq n 136 then some AgK else bif Nat.beq n 137 then some Bbm else none
def APs:AaF:={fn:=fnS,keep:=fun _=>false,split:=fun _=>false,prim:=fun _=>none,pure:=pureS,slim:=true}
end Go.Eng.St
namespace Go.Eng.St
open Go Go.Eng
variable [Inhabited GlobT]
attribute [local irreducible] OpR TL TD TC TS AaB
abbrev u6 (n:Nat):AVal := .int .u64 (n:Int)
abbrev cl (L:List Nat):List AVal:=L.map u6
def OkL (L:List Nat):Prop:=L.length=14∧∀ x∈L,x<18446744073709551616
theorem OkL.get {L:List Nat} (h:OkL L) (i:Nat):L.getD i 0<18446744073709551616:=by
 rw [List.getD_eq_getElem?_getD]
 cases hi:L[i]? with
 | none=>simp
 | some x=>exact h.2 x (List.mem_of_getElem? hi)
theorem of14 {L:List Nat} (h:OkL L):∃ a b c d e f g i j k l m n o,L=[a,b,c,d,e,f,g,i,j,k,l,m,n,o]:=by
 obtain⟨h,-⟩:=h
 match L,h with
 | [a,b,c,d,e,f,g,i,j,k,l,m,n,o],_=>exact⟨a,b,c,d,e,f,g,i,j,k,l,m,n,o,rfl⟩
set_option maxRecDepth 20000 in
theorem of_ok (L:List Nat) (h:OkL L):AaB APs Aub [.agg (cl L)] (.agg (cl L)):=by
 obtain⟨a,b,c,d,e,f,g,i,j,k,l,m,n,o,rfl⟩:=of14 h
 refine Aaq (af:=AnW) rfl rfl ?_
 refine Aac (Aad (Aaa 2 rfl (Aab (Aac (Aad (Aaa 28 rfl ?_))))))
 refine Aae (Adt rfl rfl) rfl rfl rfl rfl ?_;refine Aae (Adt rfl rfl) rfl rfl rfl rfl ?_;refine Aaa 1 rfl (Aab ?_)
 exact Aay (retd rfl ⟨_,AaA rfl⟩)
def idxI (ls:List (List UInt8)) (s:List UInt8):Int:=if s∈ls then (ls.idxOf s:Int) else -1
theorem idxI_at {ls:List (List UInt8)} {s:List UInt8} {i:Nat} (h:ls[i]?=some s) (hn:∀ j,j<i→ls[j]?≠some s):idxI ls s=(i:Int):=by
 obtain⟨hi,hs⟩:=List.getElem?_eq_some_iff.1 h
 have hm:s∈ls:=hs▸List.getElem_mem hi
 unfold idxI
 rw [if_pos hm]
 have h1:ls.idxOf s<ls.length:=List.idxOf_lt_length_iff.2 hm
 have h2:ls[ls.idxOf s]=s:=List.getElem_idxOf h1
 have h3:ls.idxOf s=i:=by
  rcases Nat.lt_trichotomy (ls.idxOf s) i with h4 | h4 | h4
  ·exact absurd (by rw [List.getElem?_eq_getElem h1,h2]) (hn _ h4)
  ·exact h4
  ·exfalso
   have:=List.not_of_lt_findIdx (p:=(· == s)) (xs:=ls) (i:=i) h4
   simp [hs] at this
 omega
theorem Azh (ls:List (List UInt8)) (hl:ls.length<4294967296) (s:List UInt8):AaB APs Abz [.imm (ls.map fun t=>[.str t]),.str s] (.int .i64 (idxI ls s)):=by
 refine Aaq (af:=AbA) rfl rfl ?_
 refine Aac (Aad (Aaa 1 rfl (Aab (Aac (Aac (Aad ?_))))))
 refine Aaa 3 rfl (Aab ?_)
 refine Aaj (AaJ (σ:=Nat) (fun i=>ls.length - i) (fun i=>[(0,.imm (ls.map fun t=>[.str t])),(1,.str s),(7,.int .i64 ((ls.map fun t=>[AVal.str t]).length:Int)),(8,.int .i64 (i:Int))])
  (fun i S=>i≤ls.length∧S=[]∧∀ j,j<i→ls[j]?≠some s) 0 (by (repeat' (first | exact Aav | refine Aal rfl ?_))) ⟨by omega,rfl,fun j h=>absurd h (by omega)⟩ ?_)
 rintro i S ⟨hi,rfl,hn⟩
 refine Aac (Aad (Aaa 1 rfl (Aab (Aac ?_))))
 refine Aax rfl decide_eq_true_iff (fun h=>Aas ?_) (fun h=>AaG ?_)
 ·have hi':i<ls.length:=by simp at h;omega
  refine Aac ?_;refine Aaj ?_;refine Aac (Aad (Aaa 2 rfl (Aab (Aac (Aad ?_)))))
  refine Aaa 3 rfl ?_
  refine Aae (Aby rfl rfl (Abb (d:=[]) hi') rfl) rfl rfl rfl rfl ?_
  refine Aaa 2 rfl (Aab ?_)
  have hg:ls[i]?=some (ls.getD i []):=by rw [List.getD_eq_getElem?_getD,List.getElem?_eq_getElem hi'];rfl
  refine Aax rfl beq_iff_eq (fun c=>?_) (fun c=>?_)
  ·have e:idxI ls s=(i:Int):=idxI_at (by rw [hg,←c]) hn
   rw [e]
   refine Aac (Aad (Aaa 2 rfl (Aab ?_)));exact Aay (retd rfl ⟨_,AaA rfl⟩)
  ·refine Aas (Aad ?_);refine Aae (AaK (b:=1) rfl rfl (by omega)) rfl rfl rfl rfl ?_;refine Aaa 1 rfl (Aab ?_)
   refine⟨i+1,by omega,by (repeat' (first | exact Aav | refine Aal rfl ?_)),by omega,rfl,fun j hj=>?_⟩
   rcases Nat.lt_or_ge j i with h1 | h1
   ·exact hn j h1
   ·have:j=i:=by omega
    subst this
    rw [hg]
    exact fun h2=>c (Option.some.inj h2).symm
 ·have e:idxI ls s = -1:=by
   unfold idxI
   rw [if_neg]
   intro hm
   obtain⟨j,hj,hjs⟩:=List.getElem_of_mem hm
   have hlen:ls.length≤i:=by simp at h;omega
   exact hn j (by omega) (by rw [List.getElem?_eq_getElem hj,hjs])
  rw [e]
  refine Aac (Aad (Aaa 1 rfl (Aab ?_)));exact Aay (retd rfl ⟨_,AaA rfl⟩)
def getV (L:List Nat) (s:List UInt8):Nat:=if s∈nameL then L.getD (nameL.idxOf s) 0 else 0
theorem getV_lt {L:List Nat} (h:OkL L) (s:List UInt8):getV L s<18446744073709551616:=by
 unfold getV
 split
 ·exact h.get _
 ·omega
theorem name_lt {s:List UInt8} (h:s∈nameL):nameL.idxOf s<14:=List.idxOf_lt_length_iff.2 h
theorem Afr (L:List Nat) (h:OkL L) (s:List UInt8):AaB APs Abu [.agg (cl L),.str s] (.tuple [u6 (getV L s),.bool (decide (s∈nameL))]):=by
 have hi:=Azh nameL (by decide) s
 have hlen:=h.1
 by_cases hm:s∈nameL
 ·have e1:idxI nameL s=((nameL.idxOf s:Nat):Int):=if_pos hm
  have e2:getV L s=L.getD (nameL.idxOf s) 0:=if_pos hm
  have e3:decide (s∈nameL)=true:=by simp [hm]
  have e4:=name_lt hm
  rw [e1] at hi
  rw [e2,e3]
  generalize nameL.idxOf s=i at *
  refine Aaq (af:=Ada) rfl rfl ?_
  refine Aac (Aad ?_);refine Abm (AcN rfl (by simp;omega)) rfl rfl rfl rfl ?_;refine Aaa 2 rfl (Aab ?_)
  refine Aac (Aad (Aaa 2 rfl ?_));refine Aaf rfl rfl (hi) rfl rfl rfl rfl rfl rfl ?_;refine Aaa 1 rfl ?_
  refine Aab (Aac (Aac (Aad (Aaa 2 rfl (Aab ?_)))))
  refine AaC (t:=false) rfl (fun h=>nomatch h) (fun _=>?_);refine Aas (Aac (Aad (Aaa 2 rfl ?_)))
  refine Aae (Abi rfl rfl (by omega)) rfl rfl rfl rfl ?_;refine Aae (Abe 0 rfl rfl (by omega)) rfl rfl rfl rfl ?_;refine Aaa 2 rfl ?_
  refine Aab ?_;exact Aay (retd rfl ⟨_,AaA rfl⟩)
 ·have e1:idxI nameL s = -1:=if_neg hm
  have e2:getV L s=0:=if_neg hm
  have e3:decide (s∈nameL)=false:=by simp [hm]
  rw [e1] at hi
  rw [e2,e3]
  obtain⟨a,b,c,d,e,f,g,i',j,k,l,m,n,o,rfl⟩:=of14 h
  refine Aaq (af:=Ada) rfl rfl ?_
  refine Aac (Aad (Aaa 3 rfl (Aab (Aac (Aad (Aaa 2 rfl ?_))))))
  refine Aaf rfl rfl (hi) rfl rfl rfl rfl rfl rfl ?_;refine Aaa 1 rfl (Aab (Aac (Aac (Aad ?_))))
  refine Aaa 2 rfl (Aab ?_);refine AaC (t:=true) rfl (fun _=>?_) (fun h=>nomatch h);refine Aac (Aad ?_)
  refine Aaa 2 rfl (Aab ?_);exact Aay (retd rfl ⟨_,AaA rfl⟩)
end Go.Eng.St
namespace Go.Eng.St
open Go Go.Eng
variable [Inhabited GlobT]
attribute [local irreducible] OpR TL TD TC TS AaB
abbrev fl (w:Nat):AVal := .flt .f64 w
abbrev W64 (w:Nat):Prop:=w<18446744073709551616
theorem gt_max {w:Nat} (hw:W64 w):(FloatKind.f64.format.order w 9218868437227405311 == some .gt)=(!fN w && !fS w && decide (fR w=infR)):=by
 rw [fo_gt hw (by omega)]
 have h1:fN 9218868437227405311=false:=by decide
 have h2:fK 9218868437227405311=9218868437227405311:=by decide
 rw [h1,h2]
 unfold fK fN infR
 rcases Nat.lt_or_ge 9218868437227405312 (fR w) with h | h
 ·rw [decide_eq_true h];rfl
 ·rw [decide_eq_false (by omega:¬ 9218868437227405312<fR w)]
  cases fS w
  ·simp
   omega
  ·simp
theorem isInf_ok (w:Nat) (hw:W64 w):AaB APs AeO [fl w,.int .i64 1] (.bool (!fN w && !fS w && decide (fR w=infR))):=by
 rw [←gt_max hw]
 refine Aaq (af:=AeS) rfl rfl ?_
 refine Aac (Aad (Aaa 1 rfl (Aab (Aac (Aac (Aad ?_))))))
 refine Aaa 2 rfl (Aab ?_);refine AaC (t:=false) rfl (fun h=>nomatch h) (fun _=>?_);refine Aac (Aad ?_)
 refine Aaa 2 rfl (Aab ?_);refine AaC (t:=false) rfl (fun h=>nomatch h) (fun _=>?_);refine Aas (Aac ?_)
 refine Aad (Aaa 3 rfl (Aab ?_));exact Aay (retd rfl ⟨_,AaA rfl⟩)
end Go.Eng.St
namespace Go.Eng.St
open Go Go.Eng
variable [Inhabited GlobT]
attribute [local irreducible] OpR TL TD TC TS AaB
abbrev nv:AVal := .nanv .f64
def quoV (x y:Nat):AVal:=fltOr .f64 (FloatKind.f64.format.div x y)
def partV (x y:Nat):AVal:=match FloatKind.f64.format.add (FloatKind.nearest .f64 (x:Int)) (FloatKind.nearest .f64 (y:Int)) with
 | some s=>quoV (FloatKind.nearest .f64 (x:Int)) s
 | none=>nv
theorem Bcx (x y:Nat):AaB APs AhX [u6 x,u6 y] (partV x y):=by
 cases hA:FloatKind.f64.format.add (FloatKind.nearest .f64 (x:Int)) (FloatKind.nearest .f64 (y:Int)) with
 | none =>
   rw [show partV x y=nv by unfold partV;rw [hA]]
   refine Aaq (af:=Aeu) rfl rfl ?_
   refine Aac (Aad (Aaa 1 rfl (Aab (Aac (Aad (Aaa 6 rfl ?_))))))
   refine Aab (Aac (Aad (Aaa 3 rfl ?_)))
   refine Aae (Aar (v:=nv) rfl rfl (by show some (fltOr .f64 _)=_;rw [hA];rfl)) rfl rfl rfl rfl ?_
   refine Aae (Aar (v:=nv) rfl rfl rfl) rfl rfl rfl rfl ?_
   refine Aaa 1 rfl (Aab ?_);exact Aay (retd rfl ⟨_,AaA rfl⟩)
 | some s =>
   cases hD:FloatKind.f64.format.div (FloatKind.nearest .f64 (x:Int)) s with
   | none =>
     rw [show partV x y=nv by unfold partV quoV;rw [hA];dsimp only;rw [hD];rfl]
     refine Aaq (af:=Aeu) rfl rfl ?_
     refine Aac (Aad (Aaa 1 rfl (Aab (Aac (Aad (Aaa 6 rfl ?_))))))
     refine Aab (Aac (Aad (Aaa 3 rfl ?_)))
     refine Aae (Aar (v:=fl s) rfl rfl (by show some (fltOr .f64 _)=_;rw [hA];rfl)) rfl rfl rfl rfl ?_
     refine Aae (Aar (v:=nv) rfl rfl (by show some (fltOr .f64 _)=_;rw [hD];rfl)) rfl rfl rfl rfl ?_
     refine Aaa 1 rfl (Aab ?_);exact Aay (retd rfl ⟨_,AaA rfl⟩)
   | some w =>
     rw [show partV x y=fl w by unfold partV quoV;rw [hA];dsimp only;rw [hD];rfl]
     refine Aaq (af:=Aeu) rfl rfl ?_
     refine Aac (Aad (Aaa 1 rfl (Aab (Aac (Aad (Aaa 6 rfl ?_))))))
     refine Aab (Aac (Aad (Aaa 3 rfl ?_)))
     refine Aae (Aar (v:=fl s) rfl rfl (by show some (fltOr .f64 _)=_;rw [hA];rfl)) rfl rfl rfl rfl ?_
     refine Aae (Aar (v:=fl w) rfl rfl (by show some (fltOr .f64 _)=_;rw [hD];rfl)) rfl rfl rfl rfl ?_
     refine Aaa 1 rfl (Aab ?_);exact Aay (retd rfl ⟨_,AaA rfl⟩)
theorem rate_ok (L:List Nat) (h:OkL L) (s:List UInt8) (t:Nat):AaB APs Agi [.agg (cl L),.str s,u6 t] (quoV (FloatKind.nearest .f64 (getV L s:Int)) (FloatKind.nearest .f64 (t:Int))):=by
 have h1:=Afr L h s
 obtain⟨c0,c1,c2,c3,c4,c5,c6,c7,c8,c9,c10,c11,c12,c13,hL⟩:=of14 h
 refine Aaq (af:=AdP) rfl rfl ?_
 generalize getV L s=n at *
 subst hL
 refine Aac (Aad (Aaa 2 rfl (Aab (Aac (Aad (Aaa 2 rfl ?_))))))
 refine Aaf rfl rfl (h1) rfl rfl rfl rfl rfl rfl ?_;refine Aaa 5 rfl (Aab (Aac (Aad ?_)))
 refine Aaa 4 rfl ?_
 refine Aae (Aar (v:=quoV (FloatKind.nearest .f64 (n:Int)) (FloatKind.nearest .f64 (t:Int))) rfl rfl rfl) rfl rfl rfl rfl ?_
 unfold quoV
 cases FloatKind.f64.format.div (FloatKind.nearest .f64 (n:Int)) (FloatKind.nearest .f64 (t:Int))
 ·refine Aaa 1 rfl (Aab ?_);exact Aay (retd rfl ⟨_,AaA rfl⟩)
 ·refine Aaa 1 rfl (Aab ?_);exact Aay (retd rfl ⟨_,AaA rfl⟩)
theorem AlZ (x y:Nat):partV x y=nv∨∃ w,partV x y=fl w:=by
 unfold partV
 cases FloatKind.f64.format.add (FloatKind.nearest .f64 (x:Int)) (FloatKind.nearest .f64 (y:Int)) with
 | none=>exact .inl rfl
 | some s =>
   dsimp only
   unfold quoV
   cases FloatKind.f64.format.div (FloatKind.nearest .f64 (x:Int)) s with
   | none=>exact .inl rfl
   | some w=>exact .inr ⟨w,rfl⟩
theorem share_ok (L:List Nat) (h:OkL L) (s t:List UInt8):AaB APs Afv [.agg (cl L),.str s,.str t] (partV (getV L s) (getV L t)):=by
 have h1:=Afr L h s
 have h2:=Afr L h t
 have h3:=Bcx (getV L s) (getV L t)
 obtain⟨c0,c1,c2,c3,c4,c5,c6,c7,c8,c9,c10,c11,c12,c13,hL⟩:=of14 h
 refine Aaq (af:=Adk) rfl rfl ?_
 have h4:=AlZ (getV L s) (getV L t)
 generalize partV (getV L s) (getV L t)=v at *
 generalize getV L s=n at *
 generalize getV L t=m at *
 subst hL
 rcases h4 with rfl | ⟨w,rfl⟩<;>(refine Aac (Aad (Aaa 2 rfl (Aab (Aac (Aad (Aaa 2 rfl ?_))))));refine Aaf rfl rfl (h1) rfl rfl rfl rfl rfl rfl ?_;refine Aaa 5 rfl (Aab (Aac (Aad (Aaa 2 rfl ?_))));refine Aaf rfl rfl (h2) rfl rfl rfl rfl rfl rfl ?_;refine Aaa 5 rfl (Aab (Aac (Aad (Aaa 2 rfl ?_))));refine Aaf rfl rfl (h3) rfl rfl rfl rfl rfl rfl ?_;refine Aaa 1 rfl (Aab ?_);exact Aay (retd rfl ⟨_,AaA rfl⟩))
end Go.Eng.St
namespace Go.Eng.St
open Go Go.Eng
variable [Inhabited GlobT]
attribute [local irreducible] OpR TL TD TC TS AaB
end Go.Eng.St
namespace Go.Eng.St
open Go Go.Eng Ieee
variable [Inhabited GlobT]
attribute [local irreducible] OpR TL TD TC TS AaB
end Go.Eng.St
namespace Go.Eng.St
open Go Go.Eng
variable [Inhabited GlobT]
attribute [local irreducible] OpR TL TD TC TS AaB
theorem quoR_fl (x y:Nat):quoV x y=nv∨∃ w,quoV x y=fl w:=by
 unfold quoV
 cases FloatKind.f64.format.div x y with
 | none=>exact .inl rfl
 | some w=>exact .inr ⟨w,rfl⟩
theorem isInfN_ok:AaB APs AeO [nv,.int .i64 1] (.bool false):=by
 refine Aaq (af:=AeS) rfl rfl ?_
 refine Aac (Aad (Aaa 1 rfl (Aab (Aac (Aac (Aad ?_))))))
 refine Aaa 2 rfl (Aab ?_);refine AaC (t:=false) rfl (fun h=>nomatch h) (fun _=>?_);refine Aac (Aad ?_)
 refine Aaa 2 rfl (Aab ?_);refine AaC (t:=false) rfl (fun h=>nomatch h) (fun _=>?_);refine Aas (Aac ?_)
 refine Aad (Aaa 3 rfl (Aab ?_));exact Aay (retd rfl ⟨_,AaA rfl⟩)
theorem half_none:partV 0 0=nv:=by
 have:FloatKind.f64.format.add (FloatKind.nearest .f64 ((0:Nat):Int)) (FloatKind.nearest .f64 ((0:Nat):Int))=some 0:=by decide+kernel
 unfold partV
 rw [this]
 dsimp only
 unfold quoV
 rw [show FloatKind.f64.format.div (FloatKind.nearest .f64 ((0:Nat):Int)) 0=none by decide+kernel]
 rfl
theorem half_some {n:Nat} (h0:0<n) (h:n<18446744073709551616):partV n n=fl 4602678819172646912:=by
 obtain⟨s,h1,h2⟩:=half_val h0 h
 unfold partV
 rw [h1]
 dsimp only
 unfold quoV
 rw [h2]
 rfl
theorem rate_one {n:Nat} (h:n<18446744073709551616):quoV (FloatKind.nearest .f64 (n:Int)) (FloatKind.nearest .f64 ((1:Nat):Int))=fl (FloatKind.nearest .f64 (n:Int)):=by
 obtain⟨hw,hs,hr,hf⟩:=whole_word h
 unfold quoV
 rw [show FloatKind.nearest .f64 ((1:Nat):Int)=4607182418800017408 by decide+kernel,by_one hw hs (by omega)]
 rfl
theorem rate_two {n a b:Nat} (hn:n<18446744073709551616) (hab:a≤b) (hb:b<18446744073709551616) :
 (a=0∧quoV (FloatKind.nearest .f64 (n:Int)) (FloatKind.nearest .f64 (a:Int))=if n=0 then nv else fl infR) ∨
 (0<a∧∃ p q,quoV (FloatKind.nearest .f64 (n:Int)) (FloatKind.nearest .f64 (a:Int))=fl p∧quoV (FloatKind.nearest .f64 (n:Int)) (FloatKind.nearest .f64 (b:Int))=fl q∧(FloatKind.f64.format.order q p == some .lt || FloatKind.f64.format.order q p == some .eq)=true∧W64 p):=by
 rcases Nat.eq_zero_or_pos a with h | h
 ·refine .inl ⟨h,?_⟩
  subst h
  unfold quoV
  rcases Nat.eq_zero_or_pos n with g | g
  ·subst g;rw [none_by_none];rfl
  ·rw [if_neg (by omega),show FloatKind.nearest .f64 ((0:Nat):Int)=0 by decide+kernel,by_none g hn];rfl
 ·obtain⟨p,q,h1,h2,h3,h4⟩:=rate_le hn h hab hb
  refine .inr ⟨h,_,_,by unfold quoV;rw [h1];rfl,by unfold quoV;rw [h2];rfl,?_,Azk h4⟩
  rw [fo_le (Azk (by omega)) (Azk h4),fN_word (by omega),fN_word h4]
  unfold fK
  rw [fS_word (by omega),fS_word h4,fR_word (by omega),fR_word h4]
  simp
  omega
theorem eq_whole {n:Nat} (h:n<18446744073709551616):(FloatKind.f64.format.order (FloatKind.nearest .f64 (n:Int)) (FloatKind.nearest .f64 (n:Int)) == some .eq)=true:=by
 obtain⟨hw,hs,hr,hf⟩:=whole_word h
 have hn:fN (FloatKind.nearest .f64 (n:Int))=false:=by unfold fN;rw [hr];exact decide_eq_false (by omega)
 rw [fo_eq hw hw,hn]
 simp
theorem rates_law (L:List Nat) (h:OkL L) (s:List UInt8) (a b:Nat) (ha:a<18446744073709551616) (hb:b<18446744073709551616):AaB APs f_l34_StatRates [.agg (cl L),.str s,u6 a,u6 b] (.bool true):=by
 have r1:=of_ok L h
 have r2:=Afr L h s
 have r3:=share_ok L h s s
 have r4:=rate_ok L h s (min a b)
 have r5:=rate_ok L h s (max a b)
 have r6:=rate_ok L h s 1
 have hn:=getV_lt h s
 have t2:=rate_two hn (show min a b≤max a b by omega) (by omega)
 rw [rate_one hn] at r6
 obtain⟨c0,c1,c2,c3,c4,c5,c6,c7,c8,c9,c10,c11,c12,c13,hL⟩:=of14 h
 generalize getV L s=n at *
 subst hL
 refine Aaq (af:=c_l34_StatRates) rfl rfl ?_
 refine Aac (Aad (Aaa 2 rfl (Aab (Aac (Aac (Aad ?_))))))
 refine Aaa 2 rfl (Aab ?_);refine AaC (t:=false) rfl (fun h=>nomatch h) (fun _=>?_);refine Aas (Aac ?_)
 refine Aac (Aad (Aaa 3 rfl (Aab ?_)))
 by_cases z:100<s.length
 ·rw [show decide (((s.length:Nat):Int)>100)=true from decide_eq_true (by omega)]
  refine AaC (t:=true) rfl (fun _=>?_) (fun h=>nomatch h);refine Aac (Aad (Aaa 1 rfl (Aab ?_)))
  exact Aay (retd rfl ⟨_,AaA rfl⟩)
 rw [show decide (((s.length:Nat):Int)>100)=false from decide_eq_false (by omega)]
 rcases Nat.eq_zero_or_pos n with g | g
 ·subst g
  rw [half_none] at r3
  rcases t2 with⟨c,t3⟩ | ⟨c,p,q,t3,t4,t5,t6⟩
  ·rw [if_pos rfl] at t3
   rw [t3] at r4
   rcases quoR_fl (FloatKind.nearest .f64 ((0:Nat):Int)) (FloatKind.nearest .f64 ((max a b:Nat):Int)) with t4 | ⟨w,t4⟩
   ·rw [t4] at r5
    refine AaC (t:=false) rfl (fun h=>nomatch h) (fun _=>?_);refine Aas (Aac (Aad (Aaa 1 rfl ?_)))
    refine Aaf rfl rfl (r1) rfl rfl rfl rfl rfl rfl ?_;refine Aaa 2 rfl (Aab (Aac (Aad ?_)))
    refine Aaa 2 rfl ?_;refine Aaf rfl rfl (r2) rfl rfl rfl rfl rfl rfl ?_;refine Aaa 5 rfl (Aab (Aac ?_))
    refine Aad (Aaa 3 rfl ?_);refine Aaf rfl rfl (r3) rfl rfl rfl rfl rfl rfl ?_;refine Aaa 1 rfl (Aab ?_)
    refine Aac (Aac (Aad (Aaa 15 rfl (Aab ?_))))
    refine AaC (t:=false) rfl (fun h=>nomatch h) (fun _=>?_);refine Aas (Aac ?_);refine Abk ?_;refine AaE rfl ?_
    refine Aah 4 rfl ?_;refine Aai rfl rfl (BcT rfl rfl) ?_;refine Aao rfl rfl (r4) rfl rfl rfl rfl rfl ?_;refine Aah 4 rfl ?_
    refine Aai rfl rfl (o_maxn rfl rfl) ?_;refine AaD ?_;refine⟨rfl,?_⟩;refine Aan ?_;refine Aaf rfl rfl (r5) rfl rfl rfl rfl rfl rfl ?_
    refine Aab ?_;refine Aan ?_;refine Aaa 1 rfl (Aab ?_);refine Aan ?_;refine Aaa 1 rfl (Aab ?_)
    refine AcB ?_;refine Aac (Aad (Aaa 2 rfl ?_));refine Aaf rfl rfl (r6) rfl rfl rfl rfl rfl rfl ?_
    refine Aaa 6 rfl ?_;refine Aae (BcT rfl rfl) rfl rfl rfl rfl ?_;refine Aaa 2 rfl ?_
    rw [show (((min a b:Nat):Int) == 0)=true from beq_iff_eq.2 (by omega)]
    refine Aaa 8 rfl ?_;refine Aae (BcT rfl rfl) rfl rfl rfl rfl ?_;refine Aaa 2 rfl ?_
    rw [show decide (((min a b:Nat):Int)>0)=false from decide_eq_false (by omega)]
    refine Aaa 3 rfl ?_;refine Aaf rfl rfl (isInfN_ok) rfl rfl rfl rfl rfl rfl ?_;refine Aaa 4 rfl (Aab ?_)
    exact Aay (retd rfl ⟨_,AaA rfl⟩)
   ·rw [t4] at r5
    refine AaC (t:=false) rfl (fun h=>nomatch h) (fun _=>?_);refine Aas (Aac (Aad (Aaa 1 rfl ?_)))
    refine Aaf rfl rfl (r1) rfl rfl rfl rfl rfl rfl ?_;refine Aaa 2 rfl (Aab (Aac (Aad ?_)))
    refine Aaa 2 rfl ?_;refine Aaf rfl rfl (r2) rfl rfl rfl rfl rfl rfl ?_;refine Aaa 5 rfl (Aab (Aac ?_))
    refine Aad (Aaa 3 rfl ?_);refine Aaf rfl rfl (r3) rfl rfl rfl rfl rfl rfl ?_;refine Aaa 1 rfl (Aab ?_)
    refine Aac (Aac (Aad (Aaa 15 rfl (Aab ?_))))
    refine AaC (t:=false) rfl (fun h=>nomatch h) (fun _=>?_);refine Aas (Aac ?_);refine Abk ?_;refine AaE rfl ?_
    refine Aah 4 rfl ?_;refine Aai rfl rfl (BcT rfl rfl) ?_;refine Aao rfl rfl (r4) rfl rfl rfl rfl rfl ?_;refine Aah 4 rfl ?_
    refine Aai rfl rfl (o_maxn rfl rfl) ?_;refine AaD ?_;refine⟨rfl,?_⟩;refine Aan ?_;refine Aaf rfl rfl (r5) rfl rfl rfl rfl rfl rfl ?_
    refine Aab ?_;refine Aan ?_;refine Aaa 1 rfl (Aab ?_);refine Aan ?_;refine Aaa 1 rfl (Aab ?_)
    refine AcB ?_;refine Aac (Aad (Aaa 2 rfl ?_));refine Aaf rfl rfl (r6) rfl rfl rfl rfl rfl rfl ?_
    refine Aaa 6 rfl ?_;refine Aae (BcT rfl rfl) rfl rfl rfl rfl ?_;refine Aaa 2 rfl ?_
    rw [show (((min a b:Nat):Int) == 0)=true from beq_iff_eq.2 (by omega)]
    refine Aaa 8 rfl ?_;refine Aae (BcT rfl rfl) rfl rfl rfl rfl ?_;refine Aaa 2 rfl ?_
    rw [show decide (((min a b:Nat):Int)>0)=false from decide_eq_false (by omega)]
    refine Aaa 3 rfl ?_;refine Aaf rfl rfl (isInfN_ok) rfl rfl rfl rfl rfl rfl ?_;refine Aaa 4 rfl (Aab ?_)
    exact Aay (retd rfl ⟨_,AaA rfl⟩)
  ·rw [t3] at r4
   rw [t4] at r5
   refine AaC (t:=false) rfl (fun h=>nomatch h) (fun _=>?_);refine Aas (Aac (Aad (Aaa 1 rfl ?_)))
   refine Aaf rfl rfl (r1) rfl rfl rfl rfl rfl rfl ?_;refine Aaa 2 rfl (Aab (Aac (Aad ?_)))
   refine Aaa 2 rfl ?_;refine Aaf rfl rfl (r2) rfl rfl rfl rfl rfl rfl ?_;refine Aaa 5 rfl (Aab (Aac ?_))
   refine Aad (Aaa 3 rfl ?_);refine Aaf rfl rfl (r3) rfl rfl rfl rfl rfl rfl ?_;refine Aaa 1 rfl (Aab ?_)
   refine Aac (Aac (Aad (Aaa 15 rfl (Aab ?_))))
   refine AaC (t:=false) rfl (fun h=>nomatch h) (fun _=>?_);refine Aas (Aac ?_);refine Abk ?_;refine AaE rfl ?_
   refine Aah 4 rfl ?_;refine Aai rfl rfl (BcT rfl rfl) ?_;refine Aao rfl rfl (r4) rfl rfl rfl rfl rfl ?_;refine Aah 4 rfl ?_
   refine Aai rfl rfl (o_maxn rfl rfl) ?_;refine AaD ?_;refine⟨rfl,?_⟩;refine Aan ?_;refine Aaf rfl rfl (r5) rfl rfl rfl rfl rfl rfl ?_
   refine Aab ?_;refine Aan ?_;refine Aaa 1 rfl (Aab ?_);refine Aan ?_;refine Aaa 1 rfl (Aab ?_)
   refine AcB ?_;refine Aac (Aad (Aaa 2 rfl ?_));refine Aaf rfl rfl (r6) rfl rfl rfl rfl rfl rfl ?_
   refine Aaa 6 rfl ?_;refine Aae (BcT rfl rfl) rfl rfl rfl rfl ?_;refine Aaa 2 rfl ?_
   rw [show (((min a b:Nat):Int) == 0)=false from beq_false_of_ne (by omega)]
   refine Aaa 6 rfl ?_
   rw [t5]
   refine Aaa 2 rfl ?_;refine Aae (BcT rfl rfl) rfl rfl rfl rfl ?_;refine Aaa 2 rfl ?_
   rw [show decide (((min a b:Nat):Int)>0)=true from decide_eq_true (by omega)]
   refine Aaa 8 rfl (Aab ?_);exact Aay (retd rfl ⟨_,AaA rfl⟩)
 ·rw [half_some g hn] at r3
  have e1:=eq_whole hn
  have hi:AaB APs AeO [fl infR,.int .i64 1] (.bool true):=isInf_ok infR (by decide)
  refine AaC (t:=false) rfl (fun h=>nomatch h) (fun _=>?_);refine Aas (Aac (Aad (Aaa 1 rfl ?_)))
  refine Aaf rfl rfl (r1) rfl rfl rfl rfl rfl rfl ?_;refine Aaa 2 rfl (Aab (Aac (Aad ?_)))
  refine Aaa 2 rfl ?_;refine Aaf rfl rfl (r2) rfl rfl rfl rfl rfl rfl ?_;refine Aaa 5 rfl (Aab (Aac ?_))
  refine Aad (Aaa 3 rfl ?_);refine Aaf rfl rfl (r3) rfl rfl rfl rfl rfl rfl ?_;refine Aaa 1 rfl (Aab ?_)
  refine Aac (Aac (Aad (Aaa 3 rfl ?_)))
  rw [show ((n:Int) == 0)=false from beq_false_of_ne (by omega)]
  refine Aaa 8 rfl ?_
  rw [show decide ((n:Int)>0)=true from decide_eq_true (by omega)]
  refine Aaa 4 rfl (Aab ?_);refine AaC (t:=false) rfl (fun h=>nomatch h) (fun _=>?_);refine Aas (Aac ?_)
  refine Abk ?_;refine AaE rfl ?_;refine Aah 4 rfl ?_;refine Aai rfl rfl (BcT rfl rfl) ?_
  rcases t2 with⟨c,t3⟩ | ⟨c,p,q,t3,t4,t5,t6⟩
  ·rw [if_neg (by omega)] at t3
   rw [t3] at r4
   rcases quoR_fl (FloatKind.nearest .f64 (n:Int)) (FloatKind.nearest .f64 ((max a b:Nat):Int)) with t4 | ⟨w,t4⟩
   ·rw [t4] at r5
    refine Aao rfl rfl (r4) rfl rfl rfl rfl rfl ?_;refine Aah 4 rfl ?_;refine Aai rfl rfl (o_maxn rfl rfl) ?_;refine AaD ?_
    refine⟨rfl,?_⟩;refine Aan ?_;refine Aaf rfl rfl (r5) rfl rfl rfl rfl rfl rfl ?_;refine Aab ?_;refine Aan ?_;refine Aaa 1 rfl ?_
    refine Aab ?_;refine Aan ?_;refine Aaa 1 rfl (Aab ?_);refine AcB ?_;refine Aac (Aad ?_)
    refine Aaa 2 rfl ?_;refine Aaf rfl rfl (r6) rfl rfl rfl rfl rfl rfl ?_;refine Aaa 4 rfl ?_
    rw [show (FloatKind.f64.format.order (FloatKind.nearest .f64 (n:Int)) (FloatKind.nearest .f64 (n:Int)) == some .eq)=true from e1]
    refine Aaa 2 rfl ?_;refine Aae (BcT rfl rfl) rfl rfl rfl rfl ?_;refine Aaa 2 rfl ?_
    rw [show (((min a b:Nat):Int) == 0)=true from beq_iff_eq.2 (by omega)]
    refine Aaa 8 rfl ?_;refine Aae (BcT rfl rfl) rfl rfl rfl rfl ?_;refine Aaa 2 rfl ?_
    rw [show decide (((min a b:Nat):Int)>0)=false from decide_eq_false (by omega)]
    refine Aaa 3 rfl ?_;refine Aaf rfl rfl (hi) rfl rfl rfl rfl rfl rfl ?_;refine Aaa 4 rfl (Aab ?_)
    rw [if_neg Bool.false_ne_true,show decide ((n:Int)>0)=true from decide_eq_true (by omega)]
    exact Aay (retd rfl ⟨_,AaA rfl⟩)
   ·rw [t4] at r5
    refine Aao rfl rfl (r4) rfl rfl rfl rfl rfl ?_;refine Aah 4 rfl ?_;refine Aai rfl rfl (o_maxn rfl rfl) ?_;refine AaD ?_
    refine⟨rfl,?_⟩;refine Aan ?_;refine Aaf rfl rfl (r5) rfl rfl rfl rfl rfl rfl ?_;refine Aab ?_;refine Aan ?_;refine Aaa 1 rfl ?_
    refine Aab ?_;refine Aan ?_;refine Aaa 1 rfl (Aab ?_);refine AcB ?_;refine Aac (Aad ?_)
    refine Aaa 2 rfl ?_;refine Aaf rfl rfl (r6) rfl rfl rfl rfl rfl rfl ?_;refine Aaa 4 rfl ?_
    rw [show (FloatKind.f64.format.order (FloatKind.nearest .f64 (n:Int)) (FloatKind.nearest .f64 (n:Int)) == some .eq)=true from e1]
    refine Aaa 2 rfl ?_;refine Aae (BcT rfl rfl) rfl rfl rfl rfl ?_;refine Aaa 2 rfl ?_
    rw [show (((min a b:Nat):Int) == 0)=true from beq_iff_eq.2 (by omega)]
    refine Aaa 8 rfl ?_;refine Aae (BcT rfl rfl) rfl rfl rfl rfl ?_;refine Aaa 2 rfl ?_
    rw [show decide (((min a b:Nat):Int)>0)=false from decide_eq_false (by omega)]
    refine Aaa 3 rfl ?_;refine Aaf rfl rfl (hi) rfl rfl rfl rfl rfl rfl ?_;refine Aaa 4 rfl (Aab ?_)
    rw [if_neg Bool.false_ne_true,show decide ((n:Int)>0)=true from decide_eq_true (by omega)]
    exact Aay (retd rfl ⟨_,AaA rfl⟩)
  ·rw [t3] at r4
   rw [t4] at r5
   refine Aao rfl rfl (r4) rfl rfl rfl rfl rfl ?_;refine Aah 4 rfl ?_;refine Aai rfl rfl (o_maxn rfl rfl) ?_;refine AaD ?_
   refine⟨rfl,?_⟩;refine Aan ?_;refine Aaf rfl rfl (r5) rfl rfl rfl rfl rfl rfl ?_;refine Aab ?_;refine Aan ?_;refine Aaa 1 rfl ?_
   refine Aab ?_;refine Aan ?_;refine Aaa 1 rfl (Aab ?_);refine AcB ?_;refine Aac (Aad ?_)
   refine Aaa 2 rfl ?_;refine Aaf rfl rfl (r6) rfl rfl rfl rfl rfl rfl ?_;refine Aaa 4 rfl ?_
   rw [show (FloatKind.f64.format.order (FloatKind.nearest .f64 (n:Int)) (FloatKind.nearest .f64 (n:Int)) == some .eq)=true from e1]
   refine Aaa 2 rfl ?_;refine Aae (BcT rfl rfl) rfl rfl rfl rfl ?_;refine Aaa 2 rfl ?_
   rw [show (((min a b:Nat):Int) == 0)=false from beq_false_of_ne (by omega)]
   refine Aaa 6 rfl ?_
   rw [t5]
   refine Aaa 2 rfl ?_;refine Aae (BcT rfl rfl) rfl rfl rfl rfl ?_;refine Aaa 2 rfl ?_
   rw [show decide (((min a b:Nat):Int)>0)=true from decide_eq_true (by omega)]
   refine Aaa 8 rfl (Aab ?_);exact Aay (retd rfl ⟨_,AaA rfl⟩)
end Go.Eng.St
namespace Go.Eng.St
open Go Go.Eng Go.RowKit Go.ChangeShapes Go.WideShapes
variable [Inhabited GlobT]
theorem open_agg_rep {H:Type} {enc:TypeId × Value→H} {P:Program} {r:Reach} {b0:Nat} {t:TypeId} {fs:Array Field} {W:World} {sp:Nat→Bool} {v:Value} {d:DataW H} {ps:List MemPlace} (dd:Nat) (ss:List Shp) (ht:P.underlying t=some (.struct fs)) (hs:AmC P dd t=some ss)
 (hval:Value.okWide P W r b0 t v) (h:DataW.Trod enc P W 0 sp true t v d ps):∃ xs,Rep [] (fun _=>False) W (.agg xs) v∧Ahc ss xs:=by
 obtain⟨cs,rfl,_⟩:=okWide_struct ht hval
 obtain⟨fuel,hf⟩:=h
 obtain⟨xs,h1,h2⟩:=AvZ dd fuel t _ _ _ hs hf
 have h1:RepV [] (fun _=>False) W xs cs.toList:=by simpa [Value.cells] using h1
 refine⟨xs,⟨cs,rfl,by simpa using h1.1.symm,AgA _ _ fun i a ha=>?_⟩,h2⟩
 have hi:i<cs.toList.length:=by
  rw [←h1.1];exact(List.getElem?_eq_some_iff.1 ha).1
 refine⟨cs.toList[i],by simp at hi ⊢,h1.2 i a _ ha (List.getElem?_eq_getElem hi)⟩
theorem nats_of:∀ (n:Nat) (xs:List AVal),Ahc (List.replicate n (.int .u64)) xs→∃ L:List Nat,xs=L.map (fun x:Nat=>AVal.int .u64 (x:Int))∧L.length=n∧∀ x∈L,x<18446744073709551616
 | 0,xs,h=>by
   simp only [List.replicate,Ahc] at h
   exact⟨[],by simpa using h,rfl,fun x hx=>by cases hx⟩
 | n+1,xs,h=>by
   simp only [List.replicate_succ,Ahc,ShpA] at h
   obtain⟨_,rest,rfl,⟨z,rfl,hz⟩,h⟩:=h
   obtain⟨L,rfl,hl,hx⟩:=nats_of n rest h
   have hz':0≤z∧z<18446744073709551616:=by
    simp [Lit.wf,IntKind.min,IntKind.max,IntKind.signed,IntKind.bits] at hz
    omega
   refine⟨z.toNat::L,?_,by simp [hl],?_⟩
   ·simp only [List.map_cons,List.cons.injEq,and_true]
    rw [Int.toNat_of_nonneg hz'.1]
   ·intro x hx'
    rcases List.mem_cons.1 hx' with rfl | h'
    ·omega
    ·exact hx x h'
end Go.Eng.St
