/- A part of the engine: a machine over abstract values, and the proof that the program does what it does; no condition. -/
import Derived.Test.YtiggilmfehhgaaaGreatDoorE4
import Derived.RangeFuncLeaves
import Derived.TacticsIn
import Derived.RangeFuncOwn
import Derived.RangeFuncBox
set_option linter.unusedSectionVars false
set_option linter.unusedVariables false
set_option linter.unusedSimpArgs false
set_option linter.unnecessarySimpa false
namespace Go.Eng
open Go
variable [Inhabited GlobT]
theorem soundAt_of {P:Program} {AP:AaB} (hA:AOk P AP) {f:Nat} {args:List AVal} {r:AVal} (h:Aaz AP f args r) (hp:AP.pure f=none):SoundAt P f args r:=by
 obtain⟨n,hn⟩:=callR_I h hp
 intro A κ S w all ids vs hS hf hfl hv
 exact callI_sound hA (AcU hA n).1 hS hf hn hfl hv
theorem Abm {P:Program} {AP:AaB} (hA:AOk P AP) {f:Nat} {g:List AVal→Option AVal} (h:∀ args r,g args=some r→Aaz AP f args r) (hp:AP.pure f=none):Abb P f g:=fun args r hr =>
 soundAt_of hA (h args r hr) hp
end Go.Eng
namespace Go.Eng
open Go
variable [Inhabited GlobT]
abbrev Amt (l:Nat):Fence:=Fence.wide.inRound l
theorem callsIn_round {l n:Nat} {P:Program} {f:FuncId} {args:Array Value} {w:World} {R:Ending→World→Prop}:CallsIn (Amt l) n P f args w R↔Calls P f args w R:=callsIn_wide (n:=n)
theorem opIn_of_wp {l n:Nat} {P:Program} {o:Oper} {a:Act} {w:World} {K:Act→World→Prop} {Q:Exit→Act→World→Prop} (hd:∀ c,o.op ≠ .defer c) (h:o.wp P a w K Q):o.wpIn (Amt l) n P a w K Q:=by
 have h0:((Amt l).depth.isSome=true→1≤n):=fun hh=>Bool.noConfusion (show false=true from hh)
 refine⟨fun _ _=>trivial,?_⟩
 rw [Oper.semAt_eq _ _ _ hd]
 unfold Oper.wp at h
 generalize (execOp a.eval o).run P w=r at h ⊢
 unfold Oper.upon at h
 split at h
 ·exact h
 ·exact h
 ·exact h
 ·exact And.intro h0 (callsIn_round.2 h)
 ·exact And.intro h0 (fun c cs _=>let ⟨v,w',r,s⟩:=h c cs;⟨v,w',r,stepsIn_wide.2 s⟩)
 ·exact h
 ·exact h.elim
theorem opIn_mono {l n:Nat} {P:Program} {o:Oper} {a:Act} {w:World} {K K':Act→World→Prop} {Q:Exit→Act→World→Prop} (hd:∀ c,o.op ≠ .defer c) (hk:∀ a w,K a w→K' a w) (h:o.wp P a w K Q):o.wpIn (Amt l) n P a w K' Q :=
 opIn_of_wp hd (Oper.wp_mono hk h)
theorem Afr {l n:Nat} {P:Program} {ops:Array Oper} {Q:Exit→Act→World→Prop} (hd:∀ (i:Nat) o,ops[i]?=some o→∀ c,o.op ≠ .defer c) (hQ:¬ LetsOut Q):∀ (is:List Nat) (a:Act) (w:World),wpOps P ops Q is a w→wpOpsIn (Amt l) n P ops Q is a w
 | [],a,w,h=>h
 | i::is,a,w,h=>by
   unfold wpOps at h
   unfold wpOpsIn
   split at h
   ·rename_i ho
    simp only [ho]
    exact Afr hd hQ is a w h
   ·rename_i o ho
    simp only [ho]
    split at h
    ·rename_i hw
     rw [if_pos hw]
     rcases h with h | h
     ·exact opIn_mono (hd i o ho) (fun a w h=>Afr hd hQ is a w h) h
     ·exact absurd h.2 hQ
    ·rename_i hw
     rw [if_neg hw]
     exact⟨fun _ _=>trivial,Afr hd hQ is _ w h⟩
variable {P:Program} {A:Nat→Prop} {κ:Kap} {w:World} {N:Nat} {a:Act} {AP:AaB} (hA:AOk P AP) {rec:Rec} (hrec:AeF P rec)
include hA hrec
theorem regionIn {l n id:Nat} {ops:Array Oper} {is:List Aaq} {st st':St} {Q:Act→World→Prop} (hd:∀ (i:Nat) o,ops[i]?=some o→∀ c,o.op ≠ .defer c) (hc:compileSeq P ops ops.toList=some is) (hS:RS A κ st.S w) (hF:RF A κ w N st.fr a)
 (h:stepL AP rec N is st=some st') (hq:∀ a' w' κ',Ext κ w κ' w'→RS A κ' st'.S w'→RF A κ' w' N st'.fr a'→Q a' w') :
 (Code.region id ops false).wpIn (Amt l) n P (fun e a w=>e = .normal∧Q a w) a w:=by
 refine wpIn_region ?_
 refine Afr hd (fun⟨_,_,h⟩=>by cases h.1) _ _ _ ?_
 have:=Aha (Q:=fun e a w=>e = .normal∧Q a w) hA hrec ops.toList 0 is st st' κ a w (fun j=>by simp) hc hS hF h (fun a' w' κ' k1 k2 k3=>⟨rfl,hq a' w' κ' k1 k2 k3⟩)
 rwa [Array.length_toList,←List.range_eq_range'] at this
end Go.Eng
namespace Go.Eng
open Go
variable [Inhabited GlobT]
structure SameC (w w':World):Prop where
 size:w'.heap.size=w.heap.size
 cell:∀ a,w'.cell? a=w.cell? a
 shape:∀ c,w'.shape? c=w.shape? c
mutual
theorem Aew {w w':World} (h:SameC w w') {κ:Kap} {T:Nat→Prop}:∀ (v:AVal) (x:Value),Rep κ T w v x→Rep κ T w' v x
 | .undef,x,_=>trivial
 | .bool b,x,hv=>hv
 | .int k n,x,hv=>hv
 | .flt k n,x,hv=>hv
 | .str s,x,hv=>hv
 | .ptr b i f,x,hv=>hv
 | .rptr cs,x,hv=>by
   obtain⟨cb,o,h1,h2,h3,h4⟩:=hv
   refine⟨cb,o,h1,by rw [h.size];exact h2,h3,?_⟩
   simp only [h.cell]
   exact Adq h cs _ h4
 | .nilp,x,hv=>hv
 | .imm rows,x,hv=>by
   obtain⟨a,len,cap,h1,h2,h3,h4,h5⟩:=hv
   refine⟨a,len,cap,h1,h2,h3,h4,fun hne=>?_⟩
   obtain⟨sz,cb,o,k1,k2,k3,k4⟩:=h5 hne
   refine⟨sz,cb,o,k1,by rw [h.size];exact k2,k3,?_⟩
   simp only [h.cell]
   exact AeV h rows _ _ k4
 | .lim rows,x,hv=>by
   obtain⟨a,len,cap,h1,h2,h3,h4,h5⟩:=hv
   refine⟨a,len,cap,h1,h2,h3,h4,fun hne=>?_⟩
   obtain⟨sz,cb,o,k1,k2,k3,k4⟩:=h5 hne
   refine⟨sz,cb,o,k1,by rw [h.size];exact k2,k3,?_⟩
   simp only [h.cell]
   exact AeV h rows _ _ k4
 | .nils,x,hv=>hv
 | .enil,x,hv=>hv
 | .tnil t,x,hv=>hv
 | .view b off len full,x,hv=>by
   obtain⟨e,cb,o,cap,h1,h2,h3⟩:=hv
   refine⟨e,cb,o,cap,h1,h2,fun y hy=>?_⟩
   obtain⟨k1,k2,k3,k4,k5⟩:=h3 y hy
   exact⟨k1,k2,k3,k4,by simp only [h.shape];exact k5⟩
 | .aview b i f len esz,x,hv=>hv
 | .fn f a b,x,hv=>by
   obtain⟨y,z,h1,h2,h3,h4,h5⟩:=hv
   exact⟨y,z,h1,h2,h3,Adq h a _ h4,Adq h b _ h5⟩
 | .nanv _,x,hv=>hv
 | .nilfn,x,hv=>hv
 | .note f a r,x,_=>trivial
 | .iface t u,x,hv=>by
   obtain⟨y,h1,h2⟩:=hv
   exact⟨y,h1,Aew h u y h2⟩
 | .niliface,x,hv=>hv
 | .mapv b,x,hv=>hv
 | .nilmap,x,hv=>hv
 | .agg cs,x,hv=>by
   obtain⟨xs,h1,h2,h3⟩:=hv
   exact⟨xs,h1,h2,Adq h cs _ h3⟩
 | .tuple cs,x,hv=>by
   obtain⟨xs,h1,h2,h3⟩:=hv
   exact⟨xs,h1,h2,Adq h cs _ h3⟩
theorem Adq {w w':World} (h:SameC w w') {κ:Kap} {T:Nat→Prop}:∀ (l:List AVal) (g:Nat→Option Value),RepL κ T w l g→RepL κ T w' l g
 | [],_,_=>trivial
 | x::xs,g,hv=>⟨let ⟨v,h1,h2⟩:=hv.1;⟨v,h1,Aew h x v h2⟩,Adq h xs _ hv.2⟩
theorem AeV {w w':World} (h:SameC w w') {κ:Kap} {T:Nat→Prop}:∀ (l:List (List AVal)) (sz:Nat) (g:Nat→Option Value),Abz κ T w l sz g→Abz κ T w' l sz g
 | [],_,_,_=>trivial
 | r::rs,sz,g,hv=>⟨hv.1,Adq h r _ hv.2.1,AeV h rs _ _ hv.2.2⟩
end
theorem gok_same {w w':World} (h:SameC w w') {T:Nat→Prop} (hg:GOk T w):GOk T w':=fun g cs hc=>by
 obtain⟨h1,h2,h3⟩:=hg g cs hc
 refine⟨by rw [h.size];exact h1,h2,?_⟩
 simp only [h.cell]
 exact Adq h cs _ h3
def isEx:Obj→Bool
 | .map .. | .mapIter .. | .stringIter .. => true
 | _=>false
theorem entsOk_same {w w':World} (h:SameC w w') {κ:Kap} {T:Nat→Prop}:∀ (es:List (Nat × AVal × AVal)) (ms:List MapEntry),AbG κ T w es ms→AbG κ T w' es ms
 | [],[],_=>trivial
 | [],_::_,h=>h
 | _::_,[],h=>h
 | _::es,_::ms,hv=>⟨⟨hv.1.1,Aew h _ _ hv.1.2.1,Aew h _ _ hv.1.2.2⟩,entsOk_same h es ms hv.2⟩
theorem exOk_same {w w':World} (h:SameC w w') {κ:Kap} {T:Nat→Prop} {cb:Nat} (hh:∀ o,w.heap[cb]?=some o→isEx o=true→w'.heap[cb]?=w.heap[cb]?):∀ (x:Extra),ExOk κ T w cb x→ExOk κ T w' cb x
 | .no,_=>trivial
 | .map _ es,hv=>by
   obtain⟨ents,h1,h2⟩:=hv
   exact⟨ents,by rw [hh _ h1 rfl];exact h1,entsOk_same h _ _ h2⟩
 | .iter none _ _ _,hv=>by
   have hv:w.heap[cb]?=_:=hv
   show w'.heap[cb]?=_
   rw [hh _ hv rfl];exact hv
 | .iter (some b) _ _ _,hv=>by
   obtain⟨e,m,h1,h2,h3⟩:=hv
   exact⟨e,m,h1,h2,by rw [hh _ h3 rfl];exact h3⟩
 | .siter _ _,hv=>by
   obtain⟨ba,h1,h2⟩:=hv
   exact⟨ba,h1,by rw [hh _ h2 rfl];exact h2⟩
theorem AcX {w:World} {l:Nat} {r:Loop} (r':Loop) (hl:w.heap[l]?=some (.loop r)):SameC w (w.putObj l (.loop r')):=by
 have hlt:l<w.heap.size:=(Array.getElem?_eq_some_iff.1 hl).1
 have hs:=World.putObj_heap_same (w:=w) (o := .loop r') hlt
 refine⟨by simp,fun a=>?_,fun c=>?_⟩
 ·by_cases e:a.block=l
  ·unfold World.cell?
   rw [e,hs,hl]
  ·exact World.cell?_of_block (World.putObj_heap_other e)
 ·by_cases e:c=l
  ·unfold World.shape?
   rw [e,hs,hl]
  ·unfold World.shape?
   rw [World.putObj_heap_other e]
theorem AjP {A:Nat→Prop} {κ:Kap} {S:Store} {w:World} {l:Nat} {r r':Loop} (hl:w.heap[l]?=some (.loop r)) (h:RS A κ S w):RS A κ S (w.putObj l (.loop r')):=by
 have hs:=AcX r' hl
 refine⟨h.len,h.dead,fun b blk hb=>?_,h.inj,fun c hc=>⟨by rw [hs.size];exact(h.av c hc).1,(h.av c hc).2⟩,gok_same hs h.gl⟩
 obtain⟨x,hx,hok⟩:=h.live b blk hb
 refine⟨x,hx,hok.sz,hok.rn,fun hex=>?_,?_,?_,?_,hok.exr⟩
 ·obtain⟨cells,el,lo,hi,h1,h2,h3⟩:=hok.cells hex
  have hne:x.cb≠l:=fun e=>by rw [e,hl] at h1;cases h1
  exact⟨cells,el,lo,hi,by rw [World.putObj_heap_other hne];exact h1,h2,h3⟩
 ·have:=AeV hs _ _ _ hok.rep
  simpa only [hs.cell] using this
 ·rw [hs.shape];exact hok.ty
 ·refine exOk_same hs (fun o ho hx=>World.putObj_heap_other fun e=>?_) _ hok.ex
  rw [e,hl] at ho;cases ho;cases hx
theorem repV_same0 {κ:Kap} {T:Nat→Prop} {w w':World} (hs:SameC w w') {vs:List AVal} {xs:List Value} (h:RepV κ T w vs xs):RepV κ T w' vs xs :=
 ⟨h.1,fun i b v hb hv=>Aew hs _ _ (h.2 i b v hb hv)⟩
theorem dfOk_same {κ:Kap} {T:Nat→Prop} {w w':World} (hs:SameC w w'):∀ (v:AVal) (l:List Deferred),DfOk κ T w v l→DfOk κ T w' v l
 | .note f args rest,l,h=>by
   obtain⟨d,l',h1,h2,h3,h4⟩:=h
   exact⟨d,l',h1,h2,repV_same0 hs h3,dfOk_same hs rest l' h4⟩
 | .undef,_,h | .bool _,_,h | .int ..,_,h | .flt ..,_,h | .nanv _,_,h | .str _,_,h | .ptr ..,_,h | .rptr _,_,h | .nilp,_,h | .imm _,_,h | .lim _,_,h | .nils,_,h | .enil,_,h | .tnil _,_,h | .view ..,_,h | .aview ..,_,h | .fn ..,_,h | .nilfn,_,h | .iface ..,_,h | .niliface,_,h | .mapv _,_,h | .nilmap,_,h | .agg _,_,h | .tuple _,_,h=>h
theorem rf_same {A:Nat→Prop} {κ:Kap} {w w':World} {N:Nat} {fr:List AVal} {a:Act} (hs:SameC w w') (h:RF A κ w N fr a):RF A κ w' N fr a :=
 ⟨dfOk_same hs _ _ h.defers,h.size,fun t=>Aew hs _ _ (h.tmp t),gok_same hs h.gl⟩
end Go.Eng
namespace Go.Eng
open Go
variable [Inhabited GlobT]
theorem Afq {P:Program} {AP:AaB} (hA:AOk P AP) {l n id:Nat} {ops:Array Oper} {is:List Aaq} {A:Nat→Prop} {κ:Kap} {S:Store} {w:World} {N:Nat} {fr:List AVal} {a:Act} {m:FM} {K:FM→Store→Prop}
 (hd:∀ (i:Nat) o,ops[i]?=some o→∀ c,o.op ≠ .defer c) (hc:compileSeq P ops ops.toList=some is) (hS:RS A κ S w) (hF:RF A κ w N fr a) (hfr:Fr fr m) (h:TL AP N is m S K) :
 (Code.region id ops false).wpIn (Amt l) n P (fun e a w'=>e = .normal∧∃ κ' fr' m' S',Ext κ w κ' w'∧RS A κ' S' w'∧RF A κ' w' N fr' a∧Fr fr' m'∧K m' S') a w:=by
 obtain⟨fr',m',S',h1,h2,n0,h3⟩:=h fr hfr
 refine regionIn (st:=⟨fr,S⟩) (st':=⟨fr',S'⟩) hA (AcU hA n0).1 hd hc hS hF (h3 n0 (Nat.le_refl _)) ?_
 intro a' w' κ' k1 k2 k3
 exact⟨κ',fr',m',S',k1,k2,k3,h1,h2⟩
end Go.Eng
namespace Go.Eng
open Go
variable [Inhabited GlobT]
attribute [local irreducible] OpR TL
section
variable {P:Program} {AP:AaB} (hA:AOk P AP) {ops2 ops3:Array Oper} {sz bytes i2 i3 b1 N:Nat} {zero:List AVal}
 (hc2:compileSeq P ops2 ops2.toList=some [⟨some 5,.alloc zero,none,[]⟩,⟨none,.store sz (.t 5) (.t 7),none,[]⟩])
 (hc3:compileSeq P ops3 ops3.toList=some [⟨some 8,.load false 1 (.t 2),none,[]⟩,⟨some 9,.load true sz (.t 5),none,[]⟩,⟨some 10,.buildSlice zero sz 1 [(0,.t 9)],none,[]⟩,⟨some 11,.append sz bytes (.t 8) (.t 10),none,[]⟩,⟨none,.store 1 (.t 2) (.t 11),none,[]⟩])
 (hd2:∀ (i:Nat) o,ops2[i]?=some o→∀ c,o.op ≠ .defer c) (hd3:∀ (i:Nat) o,ops3[i]?=some o→∀ c,o.op ≠ .defer c)
 (hz:zero.length=sz) (hN:12≤N)
def apRec (ops2 ops3:Array Oper) (i2 i3 b1:Nat) (fn:FuncId) (tmps:Array Value) (D:Nat) (st:LoopState) (pe:Option Code):Loop :=
 {state:=st,pending:=pe,fn,tmps,params:=#[7],assign := .region i2 ops2 false,body := .block b1 (.region i3 ops3 false),defers:=D}
structure AgY (A:Nat→Prop) (N sz b0:Nat) (fr:List AVal) (rec:Loop) (tmps:Array Value) (l D:Nat) (pre:List (List AVal)) (κ:Kap) (S:Store) (W:World):Prop where
 rs:RS A κ S W
 rf:RF A κ W N fr {tmps:=tmps,defers:=[]}
 box:∃ v,S[b0]?=some (some ⟨1,[[v]]⟩)∧Acc (b0+1) sz S v pre
 L:W.heap[l]?=some (.loop rec)
 nl:¬ Trk κ l
 K:W.heap[D]?=some (.deferred (some []))
 nD:¬ Trk κ D
theorem tl_allocZ {d:Option Nat} {row:List AVal} {un:List Nat} {l:List Aaq} {m:FM} {S:Store} {K:FM→Store→Prop} (hz:row.length=sz) (hd:(d.all fun d=>d<N)=true)
 (hk:TL AP N l (putM m d (.ptr S.length 0 0)) (S++[some ⟨sz,[row]⟩]) K):TL AP N (⟨d,.alloc row,none,un⟩::l) m S K:=by
 subst hz
 refine Abh o_alloc rfl hd rfl rfl ?_
 rw [AbC];exact hk
theorem o_storeWZ {m:FM} {S:Store} {slot b sz':Nat} {a x:AOpd} {r cs:List AVal} (h:lo m a=some (.ptr b 0 0)) (hx:lo m x=some (.agg cs)) (h1:S[b]?=some (some ⟨sz',[r]⟩)) (h2:r.length=sz) (h3:cs.length=sz) (h4:cs.all storable=true) :
 OpR AP m slot S (.store sz a x) (.tuple []) (S.set b (some ⟨sz',[cs]⟩)) ([b],[b]):=by
 have:=AaT (AP:=AP) (slot:=slot) h hx h1 (i:=0) (r:=r) rfl rfl rfl h3 (by omega) h4
 have e:List.take 0 r++cs++List.drop (0+sz) r=cs:=by
  rw [List.take_zero,List.nil_append,Nat.zero_add,←h2,List.drop_length,List.append_nil]
 simp only [AbA,List.set_cons_zero] at this
 rw [e] at this
 exact this
include hA hc2 hc3 hd2 hd3 hz hN
theorem ap_round {A:Nat→Prop} {b0 l D m:Nat} {fn:FuncId} {tmps:Array Value} {fr:List AVal} {pre:List (List AVal)} {κ:Kap} {S:Store} {W:World}
 (hI:AgY A N sz b0 fr (apRec ops2 ops3 i2 i3 b1 fn tmps D .ready none) tmps l D pre κ S W) (hlD:l≠D) (hfr:Fr fr [(2,.ptr b0 0 0)]) (x:Value) (row:List AVal) (hx:Rep κ (Avoid A κ) W (.agg row) x)
 (hrl:row.length=sz) (hst:row.all storable=true) (hby:(pre.length+1)*bytes≤17592186044416) :
 RoundIn Fence.wide m P l fn (tmps.setIfInBounds 7 x) (.region i2 ops2 false) (.block b1 (.region i3 ops3 false)) W fun e W'=>e = .returned (.bool true)∧∃ κ' S',Ext κ W κ' W'∧AgY A N sz b0 fr (apRec ops2 ops3 i2 i3 b1 fn tmps D .ready none) tmps l D (pre++[row]) κ' S' W':=by
 have hF:RF A κ W N (putO fr (some 7) (.agg row)) {tmps:=tmps.setIfInBounds 7 x,defers:=[]}:=hI.rf.put (d:=some 7) (by simp;omega) hx
 refine roundIn_of_wpIn trivial ?_
 refine wpIn_mono (Afq hA hd2 hc2 hI.rs hF (hfr.putO (some 7) (.agg row)) (K:=fun m' S'=>lkp m' 2=some (.ptr b0 0 0)∧lkp m' 5=some (.ptr S.length 0 0)∧S'=S++[some ⟨sz,[row]⟩]) ?_) ?_
 ·refine tl_allocZ hz (by simp;omega) ?_
  refine Aae (o_storeWZ rfl rfl Abc hz hrl hst) rfl rfl rfl rfl ?_
  rw [AbC]
  exact Aac ⟨rfl,rfl,rfl⟩
 ·rintro e a1 W1 ⟨rfl,κ1,fr1,m1,S1,k1,k2,k3,k4,⟨q2,q5,rfl⟩⟩
  have hlt:l<W.heap.size:=(Array.getElem?_eq_some_iff.1 hI.L).1
  have hDt:D<W.heap.size:=(Array.getElem?_eq_some_iff.1 hI.K).1
  obtain⟨n1,e1⟩:=k1.keep l hI.nl hlt
  obtain⟨n2,e2⟩:=k1.keep D hI.nD hDt
  have hL1:=e1.trans hI.L
  have hK1:=e2.trans hI.K
  have hlt1:l<W1.heap.size:=(Array.getElem?_eq_some_iff.1 hL1).1
  have hDt1:D<W1.heap.size:=(Array.getElem?_eq_some_iff.1 hK1).1
  refine⟨_,run_beginRound hL1 rfl,wpIn_block ?_⟩
  have sc2:=AcX {apRec ops2 ops3 i2 i3 b1 fn tmps D .ready none with state := .busy} hL1
  have s2:=AjP (r':={apRec ops2 ops3 i2 i3 b1 fn tmps D .ready none with state := .busy}) hL1 k2
  have f2:=rf_same sc2 k3
  have hL2:=World.putObj_heap_same (w:=W1) (o := .loop {apRec ops2 ops3 i2 i3 b1 fn tmps D .ready none with state := .busy}) hlt1
  have hK2:(W1.putObj l (.loop {apRec ops2 ops3 i2 i3 b1 fn tmps D .ready none with state := .busy})).heap[D]?=_:=(World.putObj_heap_other (fun e=>hlD e.symm)).trans hK1
  have hoth:∀ c,c≠l→(W1.putObj l (.loop {apRec ops2 ops3 i2 i3 b1 fn tmps D .ready none with state := .busy})).heap[c]?=W1.heap[c]?:=fun c hc=>World.putObj_heap_other hc
  have hen:Env W1 (W1.putObj l (.loop {apRec ops2 ops3 i2 i3 b1 fn tmps D .ready none with state := .busy})):=⟨rfl,rfl,rfl⟩
  generalize W1.putObj l (.loop {apRec ops2 ops3 i2 i3 b1 fn tmps D .ready none with state := .busy})=W2 at *
  refine wpIn_mono (Afq hA hd3 hc3 s2 f2 k4 (K:=fun m' S'=>∃ v',S'[b0]?=some (some ⟨1,[[v']]⟩)∧Acc (b0+1) sz S' v' (pre++[row])) ?_) ?_
  ·obtain⟨v,hb,hacc⟩:=hI.box
   have hb0:b0<S.length:=(List.getElem?_eq_some_iff.1 hb).1
   refine Aae (AaG (g:=false) (sz:=1) q2 (Aba hb) (r:=[v]) rfl (Nat.le_refl _) rfl) rfl (by simp;omega) rfl rfl ?_
   refine Aae (AaG (g:=true) (f:=0) (v := .agg row) q5 Abc (r:=row) rfl (by omega) (by subst hrl;simp [Acg])) rfl (by simp;omega) rfl rfl ?_
   refine Aae (Aez (rows:=[row]) rfl ?_) rfl (by simp;omega) rfl rfl ?_
   ·simp [fillRows,AbA,Abp,hrl,hst]
   refine tl_acc (new:=[row]) rfl rfl (hacc.snoc _) (by simp [rowsOf,AiY,hrl]) (by simp) (by simpa using hst) (by simpa using hby) (by simp;omega) (by simp;omega) rfl ?_
   intro v' S' hacc' hlen hkeep
   have hb2:S'[b0]?=some (some ⟨1,[[v]]⟩):=by rw [hkeep b0 (by omega)];exact Aba hb
   have hsv:storable v'=true∧AbA v'=[v']∧Abp v'=true:=by
    rcases hacc' with⟨rfl,_⟩ | ⟨_,c,_,rfl,_⟩<;>exact⟨rfl,rfl,rfl⟩
   have ho:=AaT (AP:=AP) (slot:=S'.length) (m:=putM (putM (putM (putM m1 (some 8) v) (some 9) (.agg row)) (some 10) (.lim [row])) (some 11) v') (S:=S') (a := .t 2) (x := .t 11) (sz:=1) (f:=0) (i:=0) (b:=b0) (v:=v') q2 rfl hb2 (r:=[v]) rfl hsv.2.2 hsv.2.1 rfl (Nat.le_refl _) (by simp [hsv.1])
   refine Aae ho rfl rfl rfl rfl ?_
   exact Aac ⟨v',by rw [Aag,if_pos ⟨rfl,(List.getElem?_eq_some_iff.1 hb2).1⟩];rfl,hacc'.set (by omega) _⟩
  ·rintro e a3 W3 ⟨rfl,κ3,fr3,m3,S3,j1,j2,j3,j4,v',hb',hacc'⟩
   obtain⟨n3,e3⟩:=j1.keep l n1 (by rw [sc2.size];exact hlt1)
   obtain⟨n4,e4⟩:=j1.keep D n2 (by rw [sc2.size];exact hDt1)
   have hL3:=e3.trans hL2
   have hK3:=e4.trans hK2
   have c4:=AcX (apRec ops2 ops3 i2 i3 b1 fn tmps D .ready none) hL3
   have s4:=AjP (r':=apRec ops2 ops3 i2 i3 b1 fn tmps D .ready none) hL3 j2
   have hlt3:l<W3.heap.size:=(Array.getElem?_eq_some_iff.1 hL3).1
   have hL4:=World.putObj_heap_same (w:=W3) (o := .loop (apRec ops2 ops3 i2 i3 b1 fn tmps D .ready none)) hlt3
   have hext:Ext κ1 W1 κ3 (W3.putObj l (.loop (apRec ops2 ops3 i2 i3 b1 fn tmps D .ready none))):=by
    refine⟨j1.kle,?_,?_,?_,?_⟩
    ·rw [c4.size];have:=j1.size;rw [sc2.size] at this;exact this
    ·intro c hc hl
     obtain⟨t1,t2⟩:=j1.keep c hc (by rw [sc2.size];exact hl)
     refine⟨t1,?_⟩
     by_cases e:c=l
     ·subst e;exact hL4.trans hL1.symm
     ·rw [World.putObj_heap_other e,t2,hoth c e]
    ·intro c el n h
     rw [c4.shape]
     exact j1.shape c el n (by rw [sc2.shape];exact h)
    ·exact(hen.trans j1.env).trans ⟨rfl,rfl,rfl⟩
   refine⟨_,_,run_endRound none hL3,rfl,κ3,S3,?_,?_⟩
   ·exact k1.trans hext
   ·have hf4:=(hI.rf.mono k1).mono hext
    exact⟨s4,hf4,⟨v',hb',hacc'⟩,hL4,n3,(World.putObj_heap_other (fun e=>hlD e.symm)).trans hK3,n4⟩
end
end Go.Eng
namespace Go.Eng
open Go
variable [Inhabited GlobT]
theorem Anf {n:Nat} {P:Program} {o:Oper} {a:Act} {w:World} {K:Act→World→Prop} {Q:Exit→Act→World→Prop} (hd:∀ c,o.op ≠ .defer c) (h:o.wp P a w K Q):o.wpIn Fence.wide n P a w K Q:=by
 have h0:(Fence.wide.depth.isSome=true→1≤n):=fun hh=>Bool.noConfusion (show false=true from hh)
 refine⟨fun _ _=>trivial,?_⟩
 rw [Oper.semAt_eq _ _ _ hd]
 unfold Oper.wp at h
 generalize (execOp a.eval o).run P w=r at h ⊢
 unfold Oper.upon at h
 split at h
 ·exact h
 ·exact h
 ·exact h
 ·exact And.intro h0 (callsIn_wide.2 h)
 ·exact And.intro h0 (fun c cs _=>let ⟨v,w',r,s⟩:=h c cs;⟨v,w',r,stepsIn_wide.2 s⟩)
 ·exact h
 ·exact h.elim
theorem Adr {n:Nat} {P:Program} {ops:Array Oper} {Qn:Act→World→Prop} {Q:Exit→Act→World→Prop} {rest:List Nat} (hd:∀ (i:Nat) o,ops[i]?=some o→∀ c,o.op ≠ .defer c)
 (hk:∀ a w,Qn a w→wpOpsIn Fence.wide n P ops Q rest a w):∀ (is:List Nat) (a:Act) (w:World),wpOps P ops (fun e a w=>e = .normal∧Qn a w) is a w→wpOpsIn Fence.wide n P ops Q (is++rest) a w
 | [],a,w,h=>hk a w h.2
 | i::is,a,w,h=>by
   unfold wpOps at h
   rw [List.cons_append]
   unfold wpOpsIn
   split at h
   ·rename_i ho
    simp only [ho]
    exact Adr hd hk is a w h
   ·rename_i o ho
    simp only [ho]
    split at h
    ·rename_i hw
     rw [if_pos hw]
     rcases h with h | h
     ·refine Anf (hd i o ho) ?_
      have h2:o.wp P a w (wpOpsIn Fence.wide n P ops Q (is++rest)) (fun e a w=>e = .normal∧Qn a w):=Oper.wp_mono (fun a w h=>Adr hd hk is a w h) h
      unfold Oper.wp at h2 ⊢
      generalize (execOp a.eval o).run P w=r at h2 ⊢
      unfold Oper.upon at h2 ⊢
      split at h2
      ·exact h2
      ·exact h2
      ·exact h2
      ·refine Calls.mono h2 fun e w' he=>?_
       cases e with
       | returned v=>exact he
       | panicked c=>cases he.1
       | outgrown=>obtain⟨_,_,he⟩:=he;cases he.1
      ·exact h2
      ·cases h2.1
      ·exact h2.elim
     ·obtain⟨_,_,he⟩:=h.2
      cases he.1
    ·rename_i hw
     rw [if_neg hw]
     exact⟨fun _ _=>trivial,Adr hd hk is _ w h⟩
theorem opIn_yield {n:Nat} {P:Program} {o:Oper} {a:Act} {w:World} {K:Act→World→Prop} {Q:Exit→Act→World→Prop} {fo:Operand} {as:Array Operand} {ts:Array TypeId} {l:Nat} (ho:o.op = .call ⟨.value fo,as,ts⟩) (hf:a.eval fo = .func (.yield l) #[] #[])
 (h:YieldAt Fence.wide (n - 1) P l (as.map a.eval) w fun e w'=>e = .returned (.bool true)∧K (a.put o.dst (.bool true)) w'):o.wpIn Fence.wide n P a w K Q:=by
 have h0:(Fence.wide.depth.isSome=true→1≤n):=fun hh=>Bool.noConfusion (show false=true from hh)
 refine⟨fun _ _=>trivial,?_⟩
 rw [Oper.semAt_eq _ _ _ (fun c hc=>by rw [ho] at hc;cases hc)]
 obtain⟨fn,tmps,assign,body,hy,hR⟩:=h
 have hrun:(execOp a.eval o).run P w=(Instr.yield l (as.map a.eval)).run P w:=by
  simp [execOp,ho,resolve,Deferred.ofValue,hf,invoke]
 rw [hrun,hy]
 refine⟨h0,hR.mono ?_⟩
 rintro e w' ⟨rfl,hk⟩
 exact hk
end Go.Eng
namespace Go.Eng
open Go
variable [Inhabited GlobT]
attribute [local irreducible] OpR TL
theorem AbB {P:Program} {AP:AaB} (hA:AOk P AP) {n id:Nat} {ops:Array Oper} {is:List Aaq} {A:Nat→Prop} {κ:Kap} {S:Store} {w:World} {N:Nat} {fr:List AVal} {a:Act} {m:FM} {K:FM→Store→Prop} {Q:Exit→Act→World→Prop}
 (hd:∀ (i:Nat) o,ops[i]?=some o→∀ c,o.op ≠ .defer c) (hc:compileSeq P ops ops.toList=some is) (hS:RS A κ S w) (hF:RF A κ w N fr a) (hfr:Fr fr m) (h:TL AP N is m S K)
 (hq:∀ a' w' κ' fr' m' S',Ext κ w κ' w'→RS A κ' S' w'→RF A κ' w' N fr' a'→Fr fr' m'→K m' S'→Q .normal a' w') :
 (Code.region id ops false).wpIn Fence.wide n P Q a w:=by
 unfold TL at h
 obtain⟨fr',m',S',h1,h2,n0,h3⟩:=h fr hfr
 refine wpIn_region ?_
 have:=Adr (n:=n) (P:=P) (ops:=ops) (Q:=Q) (rest:=[]) (Qn:=fun a' w'=>∃ κ',Ext κ w κ' w'∧RS A κ' S' w'∧RF A κ' w' N fr' a') hd (fun a' w' ⟨κ',k1,k2,k3⟩=>hq a' w' κ' fr' m' S' k1 k2 k3 h1 h2) (List.range ops.size) a w ?_
 ·rwa [List.append_nil] at this
 ·have h4:=Aha (Q:=fun e a' w'=>e = .normal∧∃ κ',Ext κ w κ' w'∧RS A κ' S' w'∧RF A κ' w' N fr' a') hA (AcU hA n0).1 ops.toList 0 is ⟨fr,S⟩ ⟨fr',S'⟩ κ a w (fun j=>by simp) hc hS hF (h3 n0 (Nat.le_refl _)) (fun a' w' κ' k1 k2 k3=>⟨rfl,κ',k1,k2,k3⟩)
  rwa [Array.length_toList,←List.range_eq_range'] at h4
theorem call_inv {P:Program} {op:Op} {g:AOpd} {gargs:List AOpd} (hco:compileOp P op=some (.call g gargs)):∃ fo as ts,op = .call ⟨.value fo,as,ts⟩∧opdA fo=some g∧opdsA as.toList=some gargs:=by
 cases hoo:op<;>rw [hoo] at hco<;>simp only [compileOp] at hco
 case call c =>
  obtain⟨callee,as,ts⟩:=c
  split at hco
  ·rename_i fo as' hcal has
   simp only at hcal has
   subst hcal
   cases hfo:opdA fo with
   | none=>simp [hfo] at hco
   | some f'=>simp [hfo] at hco;obtain⟨rfl,rfl⟩:=hco;exact⟨fo,as,ts,rfl,hfo,has⟩
  ·rename_i b as' hcal has
   exfalso
   unfold AbE at hco
   repeat' (split at hco)
   all_goals first | cases hco | (simp only [Option.map_eq_some_iff] at hco;obtain⟨_,_,hco⟩:=hco;cases hco)
  ·cases hco
 case makeMap t r=>cases r<;>cases hco
 case next i str =>
  cases hi:opdA i with
  | none=>simp [hi] at hco
  | some i'=>cases str<;>simp [hi] at hco
 all_goals
  first
  | cases hco
  | (exfalso
     repeat' (split at hco)
     all_goals first | cases hco | (simp only [Option.map_eq_some_iff] at hco;obtain⟨_,_,hco⟩:=hco;cases hco))
theorem seq_one {P:Program} {ops:Array Oper} {o:Oper} {i:Aaq} (h:compileSeq P ops [o]=some [i]):∃ un,AaY P ops un o=some i:=by
 simp only [compileSeq] at h
 split at h
 ·rename_i j is h1 h2
  cases h2
  cases h
  exact⟨_,h1⟩
 ·cases h
theorem regionY {P:Program} {AP:AaB} (hA:AOk P AP) {n id sz l:Nat} {ops:Array Oper} {A:Nat→Prop} {κ:Kap} {S:Store} {w:World} {N:Nat} {fr:List AVal} {a:Act} {m:FM} {Q:Exit→Act→World→Prop} {row:List AVal}
 (hd:∀ (i:Nat) o,ops[i]?=some o→∀ c,o.op ≠ .defer c)
 (hc:compileSeq P ops ops.toList=some [⟨some 11,.move (.t 0),none,[]⟩,⟨some 12,.load true sz (.t 4),none,[]⟩,⟨some 13,.call (.t 11) [.t 12],none,[]⟩,⟨some 14,.un .not (.t 13),none,[]⟩])
 (hN:15≤N) (hS:RS A κ S w) (hF:RF A κ w N fr a) (hfr:Fr fr m) (h0:lkp m 0=some (.fn (.yield l) [] [])) {b:Nat} (h4:lkp m 4=some (.ptr b 0 0)) (hb:S[b]?=some (some ⟨sz,[row]⟩)) (hrow:row.length=sz)
 (hy:∀ x κ' w',Ext κ w κ' w'→RS A κ' S w'→Rep κ' (Avoid A κ') w' (.agg row) x→YieldAt Fence.wide (n - 1) P l #[x] w' fun e w2=>e = .returned (.bool true) ∧
   ∃ κ2 S2,Ext κ' w' κ2 w2∧RS A κ2 S2 w2∧∀ (a2:Act) (fr2:List AVal) κ3 w3,Ext κ2 w2 κ3 w3→RS A κ3 S2 w3→RF A κ3 w3 N fr2 a2→Fr fr2 ((14,.bool false)::(13,.bool true)::m)→Q .normal a2 w3) (hm1:lkp m 11=none) (hm2:lkp m 12=none) :
 (Code.region id ops false).wpIn Fence.wide n P Q a w:=by
 obtain⟨l1,l2,e1,c1,c2,n1⟩:=AcV [⟨some 11,.move (.t 0),none,[]⟩,⟨some 12,.load true sz (.t 4),none,[]⟩] [⟨some 13,.call (.t 11) [.t 12],none,[]⟩,⟨some 14,.un .not (.t 13),none,[]⟩] ops.toList hc
 obtain⟨l3,l4,e2,c3,c4,n3⟩:=AcV [⟨some 13,.call (.t 11) [.t 12],none,[]⟩] [⟨some 14,.un .not (.t 13),none,[]⟩] l2 c2
 have n4:=Ais _ _ c4
 simp only [List.length_cons,List.length_nil,Nat.zero_add] at n1 n3 n4
 obtain⟨o3,rfl⟩:=List.length_eq_one_iff.1 n3
 have hl:ops.toList=l1++([o3]++l4):=by rw [e1,e2]
 have hsz:ops.size=4:=by rw [←Array.length_toList,hl,List.length_append,List.length_append,n1,n4];rfl
 have hget:∀ j,ops[j]?=(l1++([o3]++l4))[j]?:=fun j=>by rw [←hl];exact Array.getElem?_toList.symm
 refine wpIn_region ?_
 rw [hsz,show List.range 4=List.range' 0 l1.length++([2]++List.range' 3 l4.length) by rw [n1,n4];rfl]
 have hTL:TL AP N [⟨some 11,.move (.t 0),none,[]⟩,⟨some 12,.load true sz (.t 4),none,[]⟩] m S fun m' S'=>m'=(12,.agg row)::(11,.fn (.yield l) [] [])::m∧S'=S:=by
  refine Aae (Abd h0) rfl (by simp;omega) rfl rfl ?_
  refine Aae (AaG (g:=true) (f:=0) (v := .agg row) h4 hb (r:=row) rfl (by omega) (by subst hrow;simp [Acg])) rfl (by simp;omega) rfl rfl ?_
  exact Aac ⟨rfl,rfl⟩
 unfold TL at hTL
 obtain⟨fr1,m1,S1,h1,⟨rfl,rfl⟩,k0,h3⟩:=hTL fr hfr
 refine Adr (Qn:=fun a' w'=>∃ κ',Ext κ w κ' w'∧RS A κ' S1 w'∧RF A κ' w' N fr1 a') hd ?_ _ a w ?_
 ·rintro a1 w1 ⟨κ1,q1,q2,q3⟩
  have ho3:ops[2]?=some o3:=by rw [hget,List.getElem?_append_right (by omega),n1];rfl
  obtain⟨un,hci⟩:=seq_one c3
  obtain⟨hdst,hop,-,hgd⟩:=AcJ hci
  have hg:o3.guard=none:=by
   cases hgg:o3.guard with
   | none=>rfl
   | some jw=>rw [hgg] at hgd;obtain⟨t,_,h⟩:=hgd;cases h
  have hco:compileOp P o3.op=some (.call (.t 11) [.t 12]):=by
   cases hcc:compileOp P o3.op with
   | none=>rw [hcc] at hop;cases hop
   | some ao=>rw [hcc] at hop;exact congrArg some hop.symm
  obtain⟨fo,as,ts,hoo,hfo,has⟩:=call_inv hco
  have has2:∃ x,as=#[x]∧opdA x=some (.t 12):=by
   have hlen:=(q3.opds has).1
   simp only [List.length_map,List.length_cons,List.length_nil] at hlen
   obtain⟨x,hx⟩:=List.length_eq_one_iff.1 hlen.symm
   refine⟨x,by apply Array.ext';rw [hx],?_⟩
   rw [hx] at has
   simp only [opdsA] at has
   cases hxx:opdA x with
   | none=>rw [hxx] at has;cases has
   | some y=>rw [hxx] at has;cases has;rfl
  obtain⟨fx,rfl,hfx⟩:=has2
  have hwant:Region.wanted o3 (yielded ops a1.tmps)=true:=by unfold Region.wanted;rw [hg]
  rw [List.singleton_append]
  unfold wpOpsIn
  simp only [ho3,hwant,if_true]
  have r1:=q3.opd hfo
  have r2:=q3.opd hfx
  rw [h1.opd (v := .fn (.yield l) [] []) rfl] at r1
  rw [h1.opd (v := .agg row) rfl] at r2
  obtain⟨y1,y2,t1,t2,t3,-,-⟩:=r1
  have hf:a1.eval fo = .func (.yield l) #[] #[]:=by
   rw [t1,Array.eq_empty_of_size_eq_zero t2,Array.eq_empty_of_size_eq_zero t3]
  refine opIn_yield hoo hf ?_
  obtain⟨fn,tm,asg,bd,u1,u2⟩:=hy _ κ1 w1 q1 q2 r2
  refine⟨fn,tm,asg,bd,by simpa using u1,u2.mono ?_⟩
  rintro e w2 ⟨rfl,κ2,S2,p1,p2,p3⟩
  refine⟨rfl,?_⟩
  have hd13:o3.dst=some 13:=hdst.symm
  rw [hd13]
  have f2:=(q3.mono p1).put (d:=some 13) (x := .bool true) (v := .bool true) (by simp;omega) rfl
  have fr2:=h1.putO (some 13) (.bool true)
  have hTL2:TL AP N [⟨some 14,.un .not (.t 13),none,[]⟩] (putM ((12,.agg row)::(11,.fn (.yield l) [] [])::m) (some 13) (.bool true)) S2 fun m' S'=>Wk m' ((14,.bool false)::(13,.bool true)::m)∧S'=S2:=by
   refine Aae (o_un (v := .bool false) rfl rfl) rfl (by simp;omega) rfl rfl ?_
   refine Aac ⟨fun k v hk=>?_,rfl⟩
   simp only [putM,lkp] at hk ⊢
   have ne:∀ j,lkp m j=none→Nat.beq j k=true→lkp m k=some v→False:=fun j hj e h=>by
    have:=Nat.eq_of_beq_eq_true e;subst this;rw [hj] at h;cases h
   cases hb14:Nat.beq 14 k with
   | true=>simp only [hb14] at hk ⊢;exact hk
   | false =>
     cases hb13:Nat.beq 13 k with
     | true=>simp only [hb14,hb13] at hk ⊢;exact hk
     | false =>
       simp only [hb14,hb13] at hk ⊢
       cases hb12:Nat.beq 12 k with
       | true=>exact(ne 12 hm2 hb12 hk).elim
       | false =>
         cases hb11:Nat.beq 11 k with
         | true=>exact(ne 11 hm1 hb11 hk).elim
         | false=>exact hk
  unfold TL at hTL2
  obtain⟨fr3,m3,S3,g1,⟨g2,rfl⟩,k3,g3⟩:=hTL2 _ fr2
  have:=Adr (n:=n) (P:=P) (ops:=ops) (Q:=Q) (rest:=[]) (Qn:=fun a' w'=>∃ κ',Ext κ2 w2 κ' w'∧RS A κ' S3 w'∧RF A κ' w' N fr3 a') hd (fun a' w' ⟨κ',b1,b2,b3⟩=>?_) (List.range' 3 l4.length) (a1.put (some 13) (.bool true)) w2 ?_
  ·rwa [List.append_nil] at this
  ·exact p3 a' fr3 κ' w' b1 b2 b3 (g1.wk g2)
  ·have st:=Age (rest:=[]) (Q:=fun e a' w'=>e = .normal∧∃ κ',Ext κ2 w2 κ' w'∧RS A κ' S3 w'∧RF A κ' w' N fr3 a') hA (AcU hA k3).1 l4 3 _ ⟨_,S3⟩ ⟨fr3,S3⟩ κ2 (a1.put (some 13) (.bool true)) w2 (fun j o hj=>by
    rw [hget,List.getElem?_append_right (by omega),n1,List.singleton_append,show 3+j - 2=j+1 by omega];exact hj) c4 p2 f2 (g3 k3 (Nat.le_refl _)) (fun a' w' κ' q1 q2 q3=>⟨rfl,κ',q1,q2,q3⟩)
   rwa [List.append_nil] at st
 ·have:=Age (rest:=[]) (Q:=fun e a' w'=>e = .normal∧∃ κ',Ext κ w κ' w'∧RS A κ' S1 w'∧RF A κ' w' N fr1 a') hA (AcU hA k0).1 l1 0 _ ⟨fr,S1⟩ ⟨fr1,S1⟩ κ a w (fun j o hj=>by rw [Nat.zero_add,hget,List.getElem?_append_left (List.getElem?_eq_some_iff.1 hj).1];exact hj) c1 hS hF (h3 k0 (Nat.le_refl _)) (fun a' w' κ' q1 q2 q3=>⟨rfl,κ',q1,q2,q3⟩)
  rwa [List.append_nil] at this
end Go.Eng
namespace Go.Eng
open Go
variable [Inhabited GlobT]
attribute [local irreducible] OpR TL
def ival:Value→Nat
 | .int _ n=>n.toNat
 | _=>0
section
variable {P:Program} {AP:AaB} (hA:AOk P AP) {o1 o2 o3 o4:Array Oper} {sz c0 c1 r1 r2 r3 r4 n l:Nat} {zero:List AVal} {rows:List (List AVal)}
 (h1:compileSeq P o1 o1.toList=some [⟨some 8,.bin .lss (.t 7) (.t 6),none,[]⟩])
 (h2:compileSeq P o2 o2.toList=some [⟨some 9,.iaddr sz (.t 5) (.t 7),none,[]⟩,⟨some 10,.load true sz (.t 9),none,[]⟩,⟨some 4,.alloc zero,none,[]⟩,⟨none,.store sz (.t 4) (.t 10),none,[]⟩])
 (h3:compileSeq P o3 o3.toList=some [⟨some 11,.move (.t 0),none,[]⟩,⟨some 12,.load true sz (.t 4),none,[]⟩,⟨some 13,.call (.t 11) [.t 12],none,[]⟩,⟨some 14,.un .not (.t 13),none,[]⟩])
 (h4:compileSeq P o4 o4.toList=some [⟨some 15,.bin .add (.t 7) (.c (.int .i64 1)),none,[]⟩,⟨some 7,.move (.t 15),none,[]⟩])
 (d1:∀ (i:Nat) o,o1[i]?=some o→∀ c,o.op ≠ .defer c) (d2:∀ (i:Nat) o,o2[i]?=some o→∀ c,o.op ≠ .defer c) (d3:∀ (i:Nat) o,o3[i]?=some o→∀ c,o.op ≠ .defer c) (d4:∀ (i:Nat) o,o4[i]?=some o→∀ c,o.op ≠ .defer c)
 (hz:zero.length=sz) (hrl:∀ r∈rows,r.length=sz∧r.all storable=true) (hlen:rows.length<4294967296)
 {A:Nat→Prop} (J:List (List AVal)→Kap→Store→World→Prop)
 (hrs:∀ pre κ S W,J pre κ S W→RS A κ S W)
 (hst:∀ pre κ S W κ' W',J pre κ S W→Ext κ W κ' W'→RS A κ' S W'→J pre κ' S W')
 (hal:∀ pre κ S W κ' W' blk,J pre κ S W→Ext κ W κ' W'→RS A κ' (S++[blk]) W'→J pre κ' (S++[blk]) W')
 (hY:∀ pre row κ S W x,row∈rows→pre.length<rows.length→J pre κ S W→Rep κ (Avoid A κ) W (.agg row) x→YieldAt Fence.wide (n - 1) P l #[x] W fun e W'=>e = .returned (.bool true)∧∃ κ' S',Ext κ W κ' W'∧J (pre++[row]) κ' S' W')
include hA h1 h2 h3 h4 d1 d2 d3 d4 hz hrl hlen hrs hst hal hY
theorem vals_loop {κ0:Kap} {w0:World} {Q:Exit→Act→World→Prop} {a:Act} {w:World} {κ:Kap} {S:Store} {fr:List AVal}
 (hJ:J [] κ S w) (he:Ext κ0 w0 κ w) (hF:RF A κ w 16 fr a) (hfr:Fr fr [(0,.fn (.yield l) [] []),(5,.imm rows),(6,.int .i64 (rows.length:Int)),(7,.int .i64 0),(16,.undef)])
 (hq:∀ a' w' κ' S' fr',J rows κ' S' w'→Ext κ0 w0 κ' w'→RF A κ' w' 16 fr' a'→get fr' 16 = .undef→Q (.exit c0) a' w') :
 (Code.loop (.seq (.region r1 o1 false) (.seq (.cond (.tmp 8) .skip (.exit c0)) (.seq (.block c1 (.seq (.region r2 o2 false) (.seq (.region r3 o3 false) (.cond (.tmp 14) .ret .skip)))) (.region r4 o4 false))))).wpIn Fence.wide n P Q a w:=by
 refine wpIn_loop (fun a w=>∃ (i:Nat) (κ:Kap) (S:Store) (fr:List AVal),i≤rows.length∧J (rows.take i) κ S w∧Ext κ0 w0 κ w∧RF A κ w 16 fr a∧Fr fr [(0,.fn (.yield l) [] []),(5,.imm rows),(6,.int .i64 (rows.length:Int)),(7,.int .i64 (i:Int)),(16,.undef)])
  (fun a _=>rows.length - ival (a.eval (.tmp 7))) ⟨0,κ,S,fr,Nat.zero_le _,by simpa using hJ,he,hF,by simpa using hfr⟩ ?_
 clear hJ he hF hfr
 rintro a w ⟨i,κ,S,fr,hi,hJ,he,hF,hfr⟩
 have hev:∀ (κ:Kap) (w:World) (fr:List AVal) (a:Act) (j:Nat),RF A κ w 16 fr a→get fr 7 = .int .i64 (j:Int)→ival (a.eval (.tmp 7))=j:=fun κ w fr a j hF hg=>by
  have:=hF.tmp 7
  rw [hg] at this
  rw [show a.eval (.tmp 7) = .int .i64 (j:Int) from this]
  exact Int.toNat_natCast j
 have hi0:=hev κ w fr a i hF (hfr 7 _ rfl)
 refine wpIn_seq (AbB (m:=[(0,.fn (.yield l) [] []),(5,.imm rows),(6,.int .i64 (rows.length:Int)),(7,.int .i64 (i:Int)),(16,.undef)]) (S:=S)
  (K:=fun m' S'=>m'=(8,.bool (decide ((i:Int)<rows.length)))::[(0,.fn (.yield l) [] []),(5,.imm rows),(6,.int .i64 (rows.length:Int)),(7,.int .i64 (i:Int)),(16,.undef)]∧S'=S) hA d1 h1 (hrs _ _ _ _ hJ) hF hfr ?_ ?_)
 ·refine Aae (o_lss rfl rfl) rfl (by simp<;>omega) rfl rfl ?_
  exact Aac ⟨rfl,rfl⟩
 ·rintro a1 w1 κ1 fr1 m1 S1 e1 s1 f1 g1 ⟨rfl,rfl⟩
  have hc:a1.eval (.tmp 8) = .bool (decide ((i:Int)<rows.length)):=by
   have:=f1.tmp 8
   rw [g1 8 _ rfl] at this
   exact this
  refine wpIn_seq (wpIn_cond_split hc (fun ht=>wpIn_skip ?_) (fun ht=>wpIn_exit ?_))
  ·have hlt:i<rows.length:=by simpa using ht
   obtain⟨row,hrow⟩:∃ row,rows[i]?=some row:=⟨rows[i],List.getElem?_eq_getElem hlt⟩
   have hmem:row∈rows:=List.mem_of_getElem? hrow
   obtain⟨hrl1,hrl2⟩:=hrl row hmem
   have htake:rows.take (i+1)=rows.take i++[row]:=by rw [List.take_add_one,hrow];rfl
   have hJ1:=hst _ _ _ _ _ _ hJ e1 s1
   refine wpIn_seq (wpIn_block (wpIn_seq (AbB (S:=S1)
    (K:=fun m' S'=>m'=(4,.ptr S1.length 0 0)::(10,.agg row)::(9,.rptr row)::(8,.bool (decide ((i:Int)<rows.length)))::[(0,.fn (.yield l) [] []),(5,.imm rows),(6,.int .i64 (rows.length:Int)),(7,.int .i64 (i:Int)),(16,.undef)]∧S'=S1++[some ⟨sz,[row]⟩]) hA d2 h2 s1 f1 g1 ?_ ?_)))
   ·refine Aae (Ack rfl rfl hrow hrl1) rfl (by simp<;>omega) rfl rfl ?_
    refine Aae (AjR (g:=true) (v := .agg row) rfl (by omega) (by subst hrl1;simp [Acg])) rfl (by simp<;>omega) rfl rfl ?_
    refine tl_allocZ hz (by simp<;>omega) ?_
    refine Aae (o_storeWZ rfl rfl Abc hz hrl1 hrl2) rfl rfl rfl rfl ?_
    rw [AbC]
    exact Aac ⟨rfl,rfl⟩
   ·rintro a2 w2 κ2 fr2 m2 S2 e2 s2 f2 g2 ⟨rfl,rfl⟩
    refine wpIn_seq (regionY (l:=l) (row:=row) hA d3 h3 (by omega) s2 f2 g2 rfl rfl Abc hrl1 ?_ rfl rfl)
    intro x κ3 w3 e3 s3 hx
    obtain⟨fn,tm,asg,bd,u1,u2⟩:=hY (rows.take i) row κ3 _ w3 x hmem (by rw [List.length_take];omega) (hal _ _ _ _ _ _ _ hJ1 (e2.trans e3) s3) hx
    refine⟨fn,tm,asg,bd,u1,u2.mono ?_⟩
    rintro e w4 ⟨rfl,κ4,S4,e4,hJ4⟩
    refine⟨rfl,κ4,S4,e4,hrs _ _ _ _ hJ4,?_⟩
    intro a5 fr5 κ5 w5 e5 s5 f5 g5
    have hJ5:=hst _ _ _ _ _ _ hJ4 e5 s5
    have hc5:a5.eval (.tmp 14) = .bool false:=by
     have:=f5.tmp 14
     rw [g5 14 _ rfl] at this
     exact this
    refine wpIn_cond_false hc5 (wpIn_skip ?_)
    refine AbB (S:=S4) (K:=fun m' S'=>lkp m' 0=some (.fn (.yield l) [] [])∧lkp m' 5=some (.imm rows)∧lkp m' 6=some (.int .i64 (rows.length:Int))∧lkp m' 7=some (.int .i64 ((i+1:Nat):Int))∧lkp m' 16=some .undef∧S'=S4) hA d4 h4 s5 f5 g5 ?_ ?_
    ·refine Aae (o_add (a:=(i:Int)) (b:=1) (c:=((i+1:Nat):Int)) rfl rfl (by omega) (by omega) (by omega)) rfl (by simp<;>omega) rfl rfl ?_
     refine Aae (Abd rfl) rfl (by simp<;>omega) rfl rfl ?_
     exact Aac ⟨rfl,rfl,rfl,rfl,rfl,rfl⟩
    ·rintro a6 w6 κ6 fr6 m6 S6 e6 s6 f6 g6 ⟨k0,k5,k6,k7,k16,rfl⟩
     have hi6:=hev κ6 w6 fr6 a6 (i+1) f6 (g6 7 _ k7)
     refine⟨⟨i+1,κ6,S6,fr6,by omega,by rw [htake];exact hst _ _ _ _ _ _ hJ5 e6 s6,(he.trans e1).trans ((e2.trans e3).trans ((e4.trans e5).trans e6)),f6,g6.wk (Aah k0 (Aah k5 (Aah k6 (Aah k7 (Aah k16 Aan)))))⟩,?_⟩
     simp only [hi6,hi0]
     omega
  ·have:i=rows.length:=by
    have:¬ ((i:Int)<rows.length):=by simpa using ht
    omega
   subst this
   rw [List.take_length] at hJ
   exact hq a1 w1 κ1 S1 fr1 (hst _ _ _ _ _ _ hJ e1 s1) (he.trans e1) f1 (g1 16 _ rfl)
end
end Go.Eng
namespace Go.Eng
open Go
variable [Inhabited GlobT]
attribute [local irreducible] OpR TL
theorem AcG {κ:Kap} {T:Nat→Prop} {w:World} {a:AVal} {as:List AVal} {v:Value} {vs:List Value} (h:Rep κ T w a v) (hr:RepV κ T w as vs):RepV κ T w (a::as) (v::vs):=by
 refine⟨by simp [hr.1],fun i b u hb hu=>?_⟩
 cases i with
 | zero=>cases hb;cases hu;exact h
 | succ i=>exact hr.2 i b u (by simpa using hb) (by simpa using hu)
theorem AlE {A:Nat→Prop} {κ:Kap} {w:World} {N nt:Nat} {args:List AVal} {vs:List Value} (hv:RepV κ (Avoid A κ) w args vs) (hN:N≤nt) (hl:vs.length≤nt) (hg:GOk (Avoid A κ) w) (hle:args.length≤N) :
 RF A κ w N args {tmps:=vs.toArray++Array.replicate (nt - vs.toArray.size) undef,defers:=[]}:=by
 refine⟨by rw [AlN _ _ hle];rfl,by simp;omega,fun t=>?_,hg⟩
 have:=get_rep hv t (List.replicate (nt - vs.length) undef)
 simp only [Act.eval]
 rw [Array.getD_eq_getD_getElem?]
 have e:(vs.toArray++Array.replicate (nt - vs.toArray.size) undef)[t]?=(vs++List.replicate (nt - vs.length) undef)[t]?:=by
  rw [←Array.getElem?_toList];simp
 rw [e];exact this
section
variable {P:Program} {AP:AaB} (hA:AOk P AP) {o0 o1 o2 o3 o4:Array Oper} {sz c0 c1 r0 r1 r2 r3 r4 n l g:Nat} {zero:List AVal} {rows:List (List AVal)} {fnv:Func}
 (hg:P.funcs[g]?=some fnv)
 (hb:fnv.body=some (.seq (.region r0 o0 false) (.block c0 (.loop (.seq (.region r1 o1 false) (.seq (.cond (.tmp 8) .skip (.exit c0)) (.seq (.block c1 (.seq (.region r2 o2 false) (.seq (.region r3 o3 false) (.cond (.tmp 14) .ret .skip)))) (.region r4 o4 false))))))))
 (hres:fnv.results=#[]) (hnt:fnv.ntmps=16)
 (h0:compileSeq P o0 o0.toList=some [⟨some 5,.load false 1 (.t 1),none,[]⟩,⟨some 6,.len false (.t 5),none,[]⟩,⟨some 7,.move (.c (.int .i64 0)),none,[]⟩])
 (h1:compileSeq P o1 o1.toList=some [⟨some 8,.bin .lss (.t 7) (.t 6),none,[]⟩])
 (h2:compileSeq P o2 o2.toList=some [⟨some 9,.iaddr sz (.t 5) (.t 7),none,[]⟩,⟨some 10,.load true sz (.t 9),none,[]⟩,⟨some 4,.alloc zero,none,[]⟩,⟨none,.store sz (.t 4) (.t 10),none,[]⟩])
 (h3:compileSeq P o3 o3.toList=some [⟨some 11,.move (.t 0),none,[]⟩,⟨some 12,.load true sz (.t 4),none,[]⟩,⟨some 13,.call (.t 11) [.t 12],none,[]⟩,⟨some 14,.un .not (.t 13),none,[]⟩])
 (h4:compileSeq P o4 o4.toList=some [⟨some 15,.bin .add (.t 7) (.c (.int .i64 1)),none,[]⟩,⟨some 7,.move (.t 15),none,[]⟩])
 (d0:∀ (i:Nat) o,o0[i]?=some o→∀ c,o.op ≠ .defer c) (d1:∀ (i:Nat) o,o1[i]?=some o→∀ c,o.op ≠ .defer c) (d2:∀ (i:Nat) o,o2[i]?=some o→∀ c,o.op ≠ .defer c) (d3:∀ (i:Nat) o,o3[i]?=some o→∀ c,o.op ≠ .defer c) (d4:∀ (i:Nat) o,o4[i]?=some o→∀ c,o.op ≠ .defer c)
 (hz:zero.length=sz) (hrl:∀ r∈rows,r.length=sz∧r.all storable=true) (hlen:rows.length<4294967296)
 {A:Nat→Prop} (J:List (List AVal)→Kap→Store→World→Prop)
 (hrs:∀ pre κ S W,J pre κ S W→RS A κ S W)
 (hst:∀ pre κ S W κ' W',J pre κ S W→Ext κ W κ' W'→RS A κ' S W'→J pre κ' S W')
 (hal:∀ pre κ S W κ' W' blk,J pre κ S W→Ext κ W κ' W'→RS A κ' (S++[blk]) W'→J pre κ' (S++[blk]) W')
 (hY:∀ pre row κ S W x,row∈rows→pre.length<rows.length→J pre κ S W→Rep κ (Avoid A κ) W (.agg row) x→YieldAt Fence.wide (n - 1) P l #[x] W fun e W'=>e = .returned (.bool true)∧∃ κ' S',Ext κ W κ' W'∧J (pre++[row]) κ' S' W')
include hA hg hb hres hnt h0 h1 h2 h3 h4 d0 d1 d2 d3 d4 hz hrl hlen hrs hst hal hY
theorem vals_call {κ:Kap} {S:Store} {W:World} {ptr:Value} (hJ:J [] κ S W) (hp:Rep κ (Avoid A κ) W (.rptr [.imm rows]) ptr) :
 CallsIn Fence.wide n P g #[.func (.yield l) #[] #[],ptr] W fun e W'=>(∃v,e = .returned v)∧∃ κ' S',Ext κ W κ' W'∧J rows κ' S' W':=by
 have hS:=hrs _ _ _ _ hJ
 have hv:RepV κ (Avoid A κ) W [.fn (.yield l) [] [],.rptr [.imm rows]] [.func (.yield l) #[] #[],ptr] :=
  AcG (by exact⟨#[],#[],rfl,rfl,rfl,trivial,trivial⟩) (AcG hp .nil)
 refine callsIn_of_wp hg hb trivial ?_
 have hF:=AlE (N:=16) (nt:=fnv.ntmps) hv (by omega) (by simp;omega) hS.gl (by simp)
 refine wpIn_seq (AbB (m:=[(0,.fn (.yield l) [] []),(1,.rptr [.imm rows]),(16,.undef)]) (K:=fun m' S'=>m'=(7,.int .i64 0)::(6,.int .i64 (rows.length:Int))::(5,.imm rows)::[(0,.fn (.yield l) [] []),(1,.rptr [.imm rows]),(16,.undef)]∧S'=S) hA d0 h0 hS hF ?_ ?_ ?_)
 ·exact fr_end (m:=[(0,.fn (.yield l) [] []),(1,.rptr [.imm rows])]) (k:=16) (by simp) (AjX [.fn (.yield l) [] [],.rptr [.imm rows]])
 ·refine Aae (AjR (g:=false) (v := .imm rows) rfl (by simp) rfl) rfl rfl rfl rfl ?_
  refine Aae (o_len_imm rfl) rfl rfl rfl rfl ?_
  refine Aae (Abd rfl) rfl rfl rfl rfl ?_
  exact Aac ⟨rfl,rfl⟩
 ·rintro a1 w1 κ1 fr1 m1 S1 e1 s1 f1 g1 ⟨rfl,rfl⟩
  refine wpIn_block (vals_loop (κ0:=κ) (w0:=W) hA h1 h2 h3 h4 d1 d2 d3 d4 hz hrl hlen J hrs hst hal hY (hst _ _ _ _ _ _ hJ e1 s1) e1 f1 (g1.wk (Aah rfl (Aah rfl (Aah rfl (Aah rfl (Aah rfl Aan)))))) ?_)
  intro a' w' κ' S' fr' hJ' he' hF' h16
  show Exit.inBlock c0 _ (.exit c0) a' w'
  simp only [Exit.inBlock,if_true]
  refine⟨(by have:=hF'.defers;rw [h16] at this;exact this),_,results_none hres _ _ _,⟨_,rfl⟩,κ',S',he',hJ'⟩
end
end Go.Eng
namespace Go.Eng
open Go
variable [Inhabited GlobT]
section
variable {A:Nat→Prop} {N sz b0:Nat} {fr:List AVal} {rec:Loop} {tmps:Array Value} {l D:Nat} {pre:List (List AVal)} {κ κ':Kap} {S:Store} {W W':World}
theorem AgY.st (h:AgY A N sz b0 fr rec tmps l D pre κ S W) (he:Ext κ W κ' W') (hS:RS A κ' S W'):AgY A N sz b0 fr rec tmps l D pre κ' S W':=by
 obtain⟨n1,e1⟩:=he.keep l h.nl (Array.getElem?_eq_some_iff.1 h.L).1
 obtain⟨n2,e2⟩:=he.keep D h.nD (Array.getElem?_eq_some_iff.1 h.K).1
 exact⟨hS,h.rf.mono he,h.box,e1.trans h.L,n1,e2.trans h.K,n2⟩
theorem AgY.al {blk:Option ABlock} (h:AgY A N sz b0 fr rec tmps l D pre κ S W) (he:Ext κ W κ' W') (hS:RS A κ' (S++[blk]) W'):AgY A N sz b0 fr rec tmps l D pre κ' (S++[blk]) W':=by
 obtain⟨n1,e1⟩:=he.keep l h.nl (Array.getElem?_eq_some_iff.1 h.L).1
 obtain⟨n2,e2⟩:=he.keep D h.nD (Array.getElem?_eq_some_iff.1 h.K).1
 obtain⟨v,hb,ha⟩:=h.box
 exact⟨hS,h.rf.mono he,⟨v,Aba hb,ha.snoc _⟩,e1.trans h.L,n1,e2.trans h.K,n2⟩
end
theorem Aji {P:Program} {o:Oper} {t:TypeId} {x:Operand} (h:o.op = .load t x) (ρ:Operand→Value) (w:World) (d:Deferred) (w':World):(execOp ρ o).run P w ≠ .ok (.defer d) w':=by
 simp only [execOp,h]
 intro he
 simp only [Sem.run_bind] at he
 cases hr:(Instr.loadAt t (ρ x)).run P w with
 | ok v w1=>rw [hr] at he;simp [Result.andThen] at he
 | halt s w1=>rw [hr] at he;simp [Result.andThen] at he
theorem Agu {P:Program} {o:Oper} {x:Operand} (h:o.op = .assign x) (ρ:Operand→Value) (w:World) (d:Deferred) (w':World):(execOp ρ o).run P w ≠ .ok (.defer d) w':=by
 simp [execOp,h]
theorem Ads {n:Nat} {P:Program} {ops:Array Oper} {Qn:Act→World→Prop} {Q:Exit→Act→World→Prop} {ds:List Deferred} (hd:∀ (i:Nat) o,ops[i]?=some o→∀ c,o.op ≠ .defer c)
 (hx:∀ (i:Nat) o,ops[i]?=some o→∀ (ρ:Operand→Value) w d w',(execOp ρ o).run P w ≠ .ok (.defer d) w')
 (hk:∀ a w,Qn a w→Q .normal {a with defers:=ds} w):∀ (is:List Nat) (a:Act) (w:World),wpOps P ops (fun e a w=>e = .normal∧Qn a w) is a w→wpOpsIn Fence.wide n P ops Q is {a with defers:=ds} w
 | [],a,w,h=>hk a w h.2
 | i::is,a,w,h=>by
   unfold wpOps at h
   unfold wpOpsIn
   split at h
   ·rename_i ho
    simp only [ho]
    exact Ads hd hx hk is a w h
   ·rename_i o ho
    simp only [ho]
    split at h
    ·rename_i hw
     rw [if_pos hw]
     rcases h with h | h
     ·refine Anf (hd i o ho) ?_
      have h2:o.wp P a w (fun a w=>wpOpsIn Fence.wide n P ops Q is {a with defers:=ds} w) (fun e a w=>e = .normal∧Qn a w):=Oper.wp_mono (fun a w h=>Ads hd hx hk is a w h) h
      unfold Oper.wp at h2 ⊢
      have hxx:=hx i o ho
      have hev:({a with defers:=ds}:Act).eval=a.eval:=by funext x;cases x<;>rfl
      rw [hev]
      have hxx:=hxx a.eval w
      generalize (execOp a.eval o).run P w=r at h2 hxx ⊢
      have hput:∀ v,({a with defers:=ds}:Act).put o.dst v={a.put o.dst v with defers:=ds}:=fun v=>by cases o.dst<;>rfl
      unfold Oper.upon at h2 ⊢
      split at h2
      ·rw [hput];exact h2
      ·rw [hput];exact h2
      ·exact absurd rfl (hxx _ _)
      ·refine Calls.mono h2 fun e w' he=>?_
       cases e with
       | returned v=>simp only;rw [hput];exact he
       | panicked c=>cases he.1
       | outgrown=>obtain⟨_,_,he⟩:=he;cases he.1
      ·refine Rows.mono h2 fun v w' he=>?_
       rw [hput];exact he
      ·cases h2.1
      ·exact h2.elim
     ·obtain⟨_,_,he⟩:=h.2
      cases he.1
    ·rename_i hw
     rw [if_neg hw]
     have hput:({a with defers:=ds}:Act).put o.dst undef={a.put o.dst undef with defers:=ds}:=by cases o.dst<;>rfl
     rw [hput]
     exact⟨fun _ _=>trivial,Ads hd hx hk is _ w h⟩
end Go.Eng
namespace Go.Eng
open Go Go.RowKit
variable [Inhabited GlobT]
attribute [local irreducible] OpR TL
theorem AgD {κ:Kap} {w:World} (o:Obj):Ext κ w κ (w.alloc o):=by
 have hs:(w.alloc o).heap.size=w.heap.size+1:=World.size_alloc w o
 have hk:∀ c,c<w.heap.size→(w.alloc o).heap[c]?=w.heap[c]?:=fun c hc=>Below.heap_alloc w o c hc
 refine⟨fun _ e h=>⟨e,h,.inr rfl⟩,by omega,fun c hn hc=>⟨hn,hk c hc⟩,fun c el n h=>?_,⟨rfl,rfl,rfl⟩⟩
 have hc:c<w.heap.size:=by
  unfold World.shape? at h
  split at h
  ·rename_i hh;exact(Array.getElem?_eq_some_iff.1 hh).1
  ·cases h
 unfold World.shape? at h ⊢
 rw [hk c hc];exact h
theorem AiX {A:Nat→Prop} {κ:Kap} {S:Store} {w:World} (o:Obj) (h:RS A κ S w):RS A κ S (w.alloc o):=(AhQ h (AgD (κ:=[]) o)).2
section
variable {P:Program} {AP:AaB} (hA:AOk P AP) {o0 o1 o2 o3 o4 ops2 ops3:Array Oper} {sz bytes c0 c1 r0 r1 r2 r3 r4 i2 i3 b1 n g N:Nat} {zero:List AVal} {rows:List (List AVal)} {fnv:Func}
 (hg:P.funcs[g]?=some fnv)
 (hb:fnv.body=some (.seq (.region r0 o0 false) (.block c0 (.loop (.seq (.region r1 o1 false) (.seq (.cond (.tmp 8) .skip (.exit c0)) (.seq (.block c1 (.seq (.region r2 o2 false) (.seq (.region r3 o3 false) (.cond (.tmp 14) .ret .skip)))) (.region r4 o4 false))))))))
 (hres:fnv.results=#[]) (hnt:fnv.ntmps=16) (hnm:fnv.name ≠ "runtime.NumGoroutine")
 (h0:compileSeq P o0 o0.toList=some [⟨some 5,.load false 1 (.t 1),none,[]⟩,⟨some 6,.len false (.t 5),none,[]⟩,⟨some 7,.move (.c (.int .i64 0)),none,[]⟩])
 (h1:compileSeq P o1 o1.toList=some [⟨some 8,.bin .lss (.t 7) (.t 6),none,[]⟩])
 (h2:compileSeq P o2 o2.toList=some [⟨some 9,.iaddr sz (.t 5) (.t 7),none,[]⟩,⟨some 10,.load true sz (.t 9),none,[]⟩,⟨some 4,.alloc zero,none,[]⟩,⟨none,.store sz (.t 4) (.t 10),none,[]⟩])
 (h3:compileSeq P o3 o3.toList=some [⟨some 11,.move (.t 0),none,[]⟩,⟨some 12,.load true sz (.t 4),none,[]⟩,⟨some 13,.call (.t 11) [.t 12],none,[]⟩,⟨some 14,.un .not (.t 13),none,[]⟩])
 (h4:compileSeq P o4 o4.toList=some [⟨some 15,.bin .add (.t 7) (.c (.int .i64 1)),none,[]⟩,⟨some 7,.move (.t 15),none,[]⟩])
 (d0:∀ (i:Nat) o,o0[i]?=some o→∀ c,o.op ≠ .defer c) (d1:∀ (i:Nat) o,o1[i]?=some o→∀ c,o.op ≠ .defer c) (d2:∀ (i:Nat) o,o2[i]?=some o→∀ c,o.op ≠ .defer c) (d3:∀ (i:Nat) o,o3[i]?=some o→∀ c,o.op ≠ .defer c) (d4:∀ (i:Nat) o,o4[i]?=some o→∀ c,o.op ≠ .defer c)
 (hc2:compileSeq P ops2 ops2.toList=some [⟨some 5,.alloc zero,none,[]⟩,⟨none,.store sz (.t 5) (.t 7),none,[]⟩])
 (hc3:compileSeq P ops3 ops3.toList=some [⟨some 8,.load false 1 (.t 2),none,[]⟩,⟨some 9,.load true sz (.t 5),none,[]⟩,⟨some 10,.buildSlice zero sz 1 [(0,.t 9)],none,[]⟩,⟨some 11,.append sz bytes (.t 8) (.t 10),none,[]⟩,⟨none,.store 1 (.t 2) (.t 11),none,[]⟩])
 (hd2:∀ (i:Nat) o,ops2[i]?=some o→∀ c,o.op ≠ .defer c) (hd3:∀ (i:Nat) o,ops3[i]?=some o→∀ c,o.op ≠ .defer c)
 (hz:zero.length=sz) (hN:12≤N) (hrl:∀ r∈rows,r.length=sz∧r.all storable=true) (hlen:rows.length<4294967296) (hby:rows.length*bytes≤17592186044416)
include hA hg hb hres hnt hnm h0 h1 h2 h3 h4 d0 d1 d2 d3 d4 hc2 hc3 hd2 hd3 hz hN hrl hlen hby
theorem app_range {A:Nat→Prop} {κ:Kap} {S:Store} {w:World} {fr:List AVal} {a:Act} {b0:Nat} {Q:Exit→Act→World→Prop}
 (hS:RS A κ S w) (hF:RF A κ w N fr a) (hfr:Fr fr [(2,.ptr b0 0 0),(6,.fn (.func g) [] [.rptr [.imm rows]])]) (hbx:S[b0]?=some (some ⟨1,[[.nils]]⟩)) (hun:get fr N = .undef)
 (hq:∀ (ds:List Deferred) (D:Nat) (w':World) κ' S' v,ds=[{target := .collected D,args:=#[]}]→Ext κ w κ' w'→RS A κ' S' w'→S'[b0]?=some (some ⟨1,[[v]]⟩)→Acc (b0+1) sz S' v rows→w'.heap[D]?=some (.deferred (some []))→¬ Trk κ' D→w.heap.size≤D→Q .normal {a with defers:=ds} w') :
 (Code.rangeFunc (.tmp 6) #[7] (.region i2 ops2 false) (.block b1 (.region i3 ops3 false))).wpIn Fence.wide n P Q a w:=by
 have h6:=hF.tmp 6
 rw [hfr 6 _ rfl] at h6
 obtain⟨x,y,e1,e2,e3,-,e5⟩:=h6
 obtain⟨ptr,hptr,hrep⟩:∃ ptr,y=#[ptr]∧Rep κ (Avoid A κ) w (.rptr [.imm rows]) ptr:=by
  obtain⟨⟨v,v1,v2⟩,-⟩:=e5
  refine⟨v,?_,v2⟩
  apply Array.ext'
  have:y.toList.length=1:=by simpa using e3
  obtain⟨z,hz⟩:=List.length_eq_one_iff.1 this
  have hz0:y[0]?=some z:=by rw [←Array.getElem?_toList,hz];rfl
  have v1':y[0]?=some v:=v1
  rw [v1'] at hz0;cases hz0
  rw [hz]
 have hx0:x=#[]:=Array.eq_empty_of_size_eq_zero e2
 subst hptr hx0
 refine wpIn_rangeFunc ?_
 intro fn hfn
 have hda:a.defers=[]:=by have:=hF.defers;rw [hun] at this;exact this
 obtain⟨W0,hW0⟩:∃ W0,w.alloc (.deferred (some []))=W0:=⟨_,rfl⟩
 obtain⟨W1,hW1⟩:∃ W1,W0.alloc (.loop (apRec ops2 ops3 i2 i3 b1 fn a.tmps w.heap.size .ready none))=W1:=⟨_,rfl⟩
 have s0:W0.heap.size=w.heap.size+1:=by rw [←hW0];exact World.size_alloc _ _
 have s1:W1.heap.size=w.heap.size+2:=by rw [←hW1,World.size_alloc,s0]
 have x1:Ext κ w κ W1:=by rw [←hW1,←hW0];exact(AgD _).trans (AgD _)
 have hS1:RS A κ S W1:=by rw [←hW1,←hW0];exact AiX _ (AiX _ hS)
 have hL:W1.heap[w.heap.size+1]?=some (.loop (apRec ops2 ops3 i2 i3 b1 fn a.tmps w.heap.size .ready none)):=by
  rw [←hW1,←s0];exact World.alloc_heap_new _ _
 have hK:W1.heap[w.heap.size]?=some (.deferred (some [])):=by
  rw [←hW1,Below.heap_alloc _ _ _ (by omega),←hW0];exact World.alloc_heap_new _ _
 have hntr:∀ c,w.heap.size≤c→¬ Trk κ c:=by
  rintro c hc ⟨b,x,hx,rfl⟩
  have:=hS.lt hx
  omega
 have hI:AgY A N sz b0 fr (apRec ops2 ops3 i2 i3 b1 fn a.tmps w.heap.size .ready none) a.tmps (w.heap.size+1) w.heap.size [] κ S W1:=by
  refine⟨hS1,?_,⟨.nils,hbx,AgX⟩,hL,hntr _ (by omega),hK,hntr _ (Nat.le_refl _)⟩
  have:=hF.mono x1
  have e:({tmps:=a.tmps,defers:=[]}:Act)=a:=by rw [←hda]
  rw [e];exact this
 refine⟨w.heap.size+1,[{target := .collected w.heap.size,args:=#[]}],W1,{target := .fn (.func g) #[ptr],args:=#[.func (.yield (w.heap.size+1)) #[] #[]]},W1,g,
  #[.func (.yield (w.heap.size+1)) #[] #[],ptr],W1,?_,?_,?_,?_,?_,?_⟩
 ·rw [←hW1,←hW0];exact run_enterLoop_outer _ _ _ _ _
 ·have e1':a.tmps[6]?.getD undef = .func (.func g) #[] #[ptr]:=by
   rw [←e1];simp [Act.eval]
  simp [resolve,go_sem,e1']
 ·intro _ _;trivial
 ·simp [invoke,go_sem,callFunc,hg,hnm,hb]
 ·intro hh;exact Bool.noConfusion (show false=true from hh)
 ·refine(vals_call (l:=w.heap.size+1) hA hg hb hres hnt h0 h1 h2 h3 h4 d0 d1 d2 d3 d4 hz hrl hlen
   (fun pre κ S W=>AgY A N sz b0 fr (apRec ops2 ops3 i2 i3 b1 fn a.tmps w.heap.size .ready none) a.tmps (w.heap.size+1) w.heap.size pre κ S W)
   (fun pre κ S W h=>h.rs) (fun pre κ S W κ' W' h he hs=>h.st he hs) (fun pre κ S W κ' W' blk h he hs=>h.al he hs) ?_ hI (AbD (x1.pres A) _ _ hrep)).mono ?_
  ·intro pre row κ S W x hm hpl hI hx
   refine⟨fn,a.tmps.setIfInBounds 7 x,.region i2 ops2 false,.block b1 (.region i3 ops3 false),?_,?_⟩
   ·have:=run_yield (P:=P) (args:=#[x]) hI.L rfl
    simpa [apRec] using this
   ·exact ap_round hA hc2 hc3 hd2 hd3 hz hN hI (by omega) (hfr.wk (Aah rfl Aan)) x row hx (hrl row hm).1 (hrl row hm).2 (Nat.le_trans (Nat.mul_le_mul_right _ hpl) hby)
  ·rintro e W2 ⟨⟨v,rfl⟩,κ2,S2,x2,hI2⟩
   have hend:=run_endLoop (P:=P) hI2.L (by simp [apRec])
   refine⟨none,_,hend,?_⟩
   have sc:=AcX {apRec ops2 ops3 i2 i3 b1 fn a.tmps w.heap.size .ready none with state := .exhausted} hI2.L
   obtain⟨vv,hb1,hb2⟩:=hI2.box
   have y:=x1.trans x2
   show Q .normal {a with defers:=[{target := .collected w.heap.size,args:=#[]}]++a.defers} _
   rw [hda]
   refine hq _ w.heap.size _ κ2 S2 vv rfl ⟨y.kle,by rw [sc.size];exact y.size,fun c hn hc=>?_,fun c el n h=>by rw [sc.shape];exact y.shape c el n h,y.env.trans ⟨rfl,rfl,rfl⟩⟩ (AjP hI2.L hI2.rs) hb1 hb2 ((World.putObj_heap_other (by omega)).trans hI2.K) hI2.nD (Nat.le_refl _)
   obtain⟨t1,t2⟩:=y.keep c hn hc
   exact⟨t1,(World.putObj_heap_other (by omega)).trans t2⟩
end
end Go.Eng
namespace Go.Eng
open Go Go.RowKit
variable [Inhabited GlobT]
attribute [local irreducible] OpR TL
theorem Amp {w:World} {l:Nat} {o:Obj} (o':Obj) (hl:w.heap[l]?=some o) (ho:o.isCells=false) (ho':o'.isCells=false):SameC w (w.putObj l o'):=by
 have hlt:l<w.heap.size:=(Array.getElem?_eq_some_iff.1 hl).1
 have hs:=World.putObj_heap_same (w:=w) (o:=o') hlt
 refine⟨by simp,fun a=>?_,fun c=>?_⟩
 ·by_cases e:a.block=l
  ·unfold World.cell?
   rw [e,hs,hl]
   cases o<;>cases o'<;>first | rfl | exact Bool.noConfusion ho | exact Bool.noConfusion ho'
  ·exact World.cell?_of_block (World.putObj_heap_other e)
 ·by_cases e:c=l
  ·unfold World.shape?
   rw [e,hs,hl]
   cases o<;>cases o'<;>first | rfl | exact Bool.noConfusion ho | exact Bool.noConfusion ho'
  ·unfold World.shape?
   rw [World.putObj_heap_other e]
theorem rs_put {A:Nat→Prop} {κ:Kap} {S:Store} {w:World} {l:Nat} {o:Obj} (o':Obj) (hl:w.heap[l]?=some o) (ho:o.isCells=false) (ho':o'.isCells=false) (hxo:isEx o=false) (h:RS A κ S w):RS A κ S (w.putObj l o'):=by
 have hs:=Amp o' hl ho ho'
 refine⟨h.len,h.dead,fun b blk hb=>?_,h.inj,fun c hc=>⟨by rw [hs.size];exact(h.av c hc).1,(h.av c hc).2⟩,gok_same hs h.gl⟩
 obtain⟨x,hx,hok⟩:=h.live b blk hb
 refine⟨x,hx,hok.sz,hok.rn,fun hex=>?_,?_,?_,?_,hok.exr⟩
 ·obtain⟨cells,el,lo,hi,h1,h2,h3⟩:=hok.cells hex
  have hne:x.cb≠l:=fun e=>by rw [e,hl] at h1;cases h1;cases ho
  exact⟨cells,el,lo,hi,by rw [World.putObj_heap_other hne];exact h1,h2,h3⟩
 ·have:=AeV hs _ _ _ hok.rep
  simpa only [hs.cell] using this
 ·rw [hs.shape];exact hok.ty
 ·refine exOk_same hs (fun o2 ho2 hx2=>World.putObj_heap_other fun e=>?_) _ hok.ex
  rw [e,hl] at ho2;cases ho2;rw [hxo] at hx2;cases hx2
section
variable {P:Program} {AP:AaB} (hA:AOk P AP) {o0 o1 o2 o3 o4 ops2 ops3:Array Oper} {sz bytes c0 c1 r0 r1 r2 r3 r4 i2 i3 b1 n g f:Nat} {zero:List AVal} {rows:List (List AVal)} {fnv fna:Func} {p0 p1 p4:Array Oper} {i0' i1' i4' cb:Nat} {pt:TypeId} {px py:Operand}
 (hg:P.funcs[g]?=some fnv)
 (hb:fnv.body=some (.seq (.region r0 o0 false) (.block c0 (.loop (.seq (.region r1 o1 false) (.seq (.cond (.tmp 8) .skip (.exit c0)) (.seq (.block c1 (.seq (.region r2 o2 false) (.seq (.region r3 o3 false) (.cond (.tmp 14) .ret .skip)))) (.region r4 o4 false))))))))
 (hres:fnv.results=#[]) (hnt:fnv.ntmps=16) (hnm:fnv.name ≠ "runtime.NumGoroutine")
 (h0:compileSeq P o0 o0.toList=some [⟨some 5,.load false 1 (.t 1),none,[]⟩,⟨some 6,.len false (.t 5),none,[]⟩,⟨some 7,.move (.c (.int .i64 0)),none,[]⟩])
 (h1:compileSeq P o1 o1.toList=some [⟨some 8,.bin .lss (.t 7) (.t 6),none,[]⟩])
 (h2:compileSeq P o2 o2.toList=some [⟨some 9,.iaddr sz (.t 5) (.t 7),none,[]⟩,⟨some 10,.load true sz (.t 9),none,[]⟩,⟨some 4,.alloc zero,none,[]⟩,⟨none,.store sz (.t 4) (.t 10),none,[]⟩])
 (h3:compileSeq P o3 o3.toList=some [⟨some 11,.move (.t 0),none,[]⟩,⟨some 12,.load true sz (.t 4),none,[]⟩,⟨some 13,.call (.t 11) [.t 12],none,[]⟩,⟨some 14,.un .not (.t 13),none,[]⟩])
 (h4:compileSeq P o4 o4.toList=some [⟨some 15,.bin .add (.t 7) (.c (.int .i64 1)),none,[]⟩,⟨some 7,.move (.t 15),none,[]⟩])
 (d0:∀ (i:Nat) o,o0[i]?=some o→∀ c,o.op ≠ .defer c) (d1:∀ (i:Nat) o,o1[i]?=some o→∀ c,o.op ≠ .defer c) (d2:∀ (i:Nat) o,o2[i]?=some o→∀ c,o.op ≠ .defer c) (d3:∀ (i:Nat) o,o3[i]?=some o→∀ c,o.op ≠ .defer c) (d4:∀ (i:Nat) o,o4[i]?=some o→∀ c,o.op ≠ .defer c)
 (hc2:compileSeq P ops2 ops2.toList=some [⟨some 5,.alloc zero,none,[]⟩,⟨none,.store sz (.t 5) (.t 7),none,[]⟩])
 (hc3:compileSeq P ops3 ops3.toList=some [⟨some 8,.load false 1 (.t 2),none,[]⟩,⟨some 9,.load true sz (.t 5),none,[]⟩,⟨some 10,.buildSlice zero sz 1 [(0,.t 9)],none,[]⟩,⟨some 11,.append sz bytes (.t 8) (.t 10),none,[]⟩,⟨none,.store 1 (.t 2) (.t 11),none,[]⟩])
 (hd2:∀ (i:Nat) o,ops2[i]?=some o→∀ c,o.op ≠ .defer c) (hd3:∀ (i:Nat) o,ops3[i]?=some o→∀ c,o.op ≠ .defer c)
 (hz:zero.length=sz) (hrl:∀ r∈rows,r.length=sz∧r.all storable=true) (hlen:rows.length<4294967296) (hby:rows.length*bytes≤17592186044416)
 (hf:P.funcs[f]?=some fna)
 (hfb:fna.body=some (.seq (.region i0' p0 false) (.seq (.seq (.region i1' p1 false) (.block cb (.rangeFunc (.tmp 6) #[7] (.region i2 ops2 false) (.block b1 (.region i3 ops3 false))))) (.seq (.region i4' p4 false) .ret))))
 (hfr:fna.results=#[.tmp 4]) (hfn:fna.ntmps=13)
 (hp0:compileSeq P p0 p0.toList=some [⟨some 2,.box 1 (.t 0),none,[]⟩,⟨some 4,.move (.c .nils),none,[]⟩])
 (hp1:compileSeq P p1 p1.toList=some [⟨some 6,.move (.t 1),none,[]⟩])
 (hp4:compileSeq P p4 p4.toList=some [⟨some 12,.load false 1 (.t 2),none,[]⟩,⟨some 4,.move (.t 12),none,[]⟩])
 (e0:∀ (i:Nat) o,p0[i]?=some o→∀ c,o.op ≠ .defer c) (e1:∀ (i:Nat) o,p1[i]?=some o→∀ c,o.op ≠ .defer c) (e4:∀ (i:Nat) o,p4[i]?=some o→∀ c,o.op ≠ .defer c)
 (e5:∀ (i:Nat) o,p4[i]?=some o→(∃t x,o.op = .load t x)∨∃ x,o.op = .assign x)
include hA hg hb hres hnt hnm h0 h1 h2 h3 h4 d0 d1 d2 d3 d4 hc2 hc3 hd2 hd3 hz hrl hlen hby hf hfb hfr hfn hp0 hp1 hp4 e0 e1 e4 e5
theorem app_call {A:Nat→Prop} {κ:Kap} {S:Store} {w:World} {x y:Value} (hS:RS A κ S w) (hx:Rep κ (Avoid A κ) w .nils x) (hy:Rep κ (Avoid A κ) w (.fn (.func g) [] [.rptr [.imm rows]]) y) :
 CallsIn Fence.wide n P f #[x,y] w fun e w'=>∃ v,e = .returned v∧∃ κ' S' av,Ext κ w κ' w'∧RS A κ' S' w'∧Acc S.length sz S' av rows∧Rep κ' (Avoid A κ') w' av v:=by
 have hv:RepV κ (Avoid A κ) w [.nils,.fn (.func g) [] [.rptr [.imm rows]]] [x,y]:=AcG hx (AcG hy .nil)
 refine callsIn_of_wp_marks hf hfb trivial ?_
 have hF:=AlE (N:=13) (nt:=fna.ntmps) hv (by omega) (by simp;omega) hS.gl (by simp)
 have hfr0:Fr [AVal.nils,.fn (.func g) [] [.rptr [.imm rows]]] [(0,.nils),(1,.fn (.func g) [] [.rptr [.imm rows]]),(13,.undef)]:=by
  exact fr_end (k:=13) (m:=[(0,.nils),(1,.fn (.func g) [] [.rptr [.imm rows]])]) (by simp) (AjX [.nils,.fn (.func g) [] [.rptr [.imm rows]]])
 refine wpIn_seq (AbB (K:=fun m' S'=>m'=(4,.nils)::(2,.ptr S.length 0 0)::[(0,.nils),(1,.fn (.func g) [] [.rptr [.imm rows]]),(13,.undef)]∧S'=S++[some ⟨1,[[.nils]]⟩]) hA e0 hp0 hS hF hfr0 ?_ ?_)
 ·have hb:=o_box (AP:=AP) (slot:=S.length) (m:=[(0,AVal.nils),(1,.fn (.func g) [] [.rptr [.imm rows]]),(13,.undef)]) (S:=S++[none]) (sz:=1) (x := .t 0) (v := .nils) (cs:=[.nils]) rfl rfl rfl rfl
  refine Abh hb rfl rfl rfl rfl ?_
  rw [AbC]
  refine Aae (Abd rfl) rfl rfl rfl rfl ?_
  exact Aac ⟨rfl,rfl⟩
 rintro a1 w1 κ1 fr1 m1 S1 x1 s1 f1 g1 ⟨rfl,rfl⟩
 refine wpIn_seq (wpIn_seq (AbB (K:=fun m' S'=>m'=(6,.fn (.func g) [] [.rptr [.imm rows]])::(4,.nils)::(2,.ptr S.length 0 0)::[(0,.nils),(1,.fn (.func g) [] [.rptr [.imm rows]]),(13,.undef)]∧S'=S++[some ⟨1,[[.nils]]⟩]) hA e1 hp1 s1 f1 g1 ?_ ?_))
 ·refine Aae (Abd rfl) rfl rfl rfl rfl ?_
  exact Aac ⟨rfl,rfl⟩
 rintro a2 w2 κ2 fr2 m2 S2 x2 s2 f2 g2 ⟨rfl,rfl⟩
 refine wpIn_block (app_range (N:=13) (b0:=S.length) hA hg hb hres hnt hnm h0 h1 h2 h3 h4 d0 d1 d2 d3 d4 hc2 hc3 hd2 hd3 hz (by omega) hrl hlen hby s2 f2 (g2.wk (Aah rfl (Aah rfl Aan))) Abc (g2 13 _ rfl) ?_)
 intro ds D w3 κ3 S3 v hds x3 s3 hv3 hacc hD hnD hDle
 have f3:=f2.mono x3
 have hTL:TL AP 13 [⟨some 12,.load false 1 (.t 2),none,[]⟩,⟨some 4,.move (.t 12),none,[]⟩] [(2,.ptr S.length 0 0)] S3 fun m' S'=>lkp m' 4=some v∧S'=S3:=by
  refine Aae (AaG (g:=false) (sz:=1) rfl hv3 (r:=[v]) rfl (Nat.le_refl _) rfl) rfl rfl rfl rfl ?_
  refine Aae (Abd rfl) rfl rfl rfl rfl ?_
  exact Aac ⟨rfl,rfl⟩
 unfold TL at hTL
 obtain⟨fr4,m4,S4,q1,⟨q2,rfl⟩,k4,q3⟩:=hTL fr2 (g2.wk (Aah rfl Aan))
 refine wpIn_seq (wpIn_region ?_)
 refine Ads (Qn:=fun a w=>∃ κ4,Ext κ3 w3 κ4 w∧RS A κ4 S4 w∧RF A κ4 w 13 fr4 a) e4 ?_ ?_ (List.range p4.size) a2 w3 ?_
 ·intro i o ho ρ w d w'
  rcases e5 i o ho with⟨t,x,h⟩ | ⟨x,h⟩
  ·exact Aji h ρ w d w'
  ·exact Agu h ρ w d w'
 ·rintro a5 w5 ⟨κ5,x5,s5,f5⟩
  refine wpIn_ret ?_
  subst hds
  obtain⟨nD5,eD5⟩:=x5.keep D hnD (Array.getElem?_eq_some_iff.1 hD).1
  have hD5:=eD5.trans hD
  have sc:=Amp (.deferred none) hD5 rfl rfl
  have hx:=((x1.trans x2).trans x3).trans x5
  have r5:=f5.tmp 4
  rw [q1 4 _ q2] at r5
  refine⟨by simp,.inl ⟨_,_,rfl,run_takeDeferred hD5,?_⟩⟩
  refine⟨_,results_tmp hfr _ _ _,a5.eval (.tmp 4),?_,κ5,S4,v,?_,rs_put _ hD5 rfl rfl rfl s5,?_,Aew sc _ _ r5⟩
  ·simp [Act.eval]
  ·have hle:=(x1.trans x2).size
   refine⟨hx.kle,by rw [sc.size];exact hx.size,fun c hn hc=>?_,fun c el n h=>by rw [sc.shape];exact hx.shape c el n h,hx.env.trans ⟨rfl,rfl,rfl⟩⟩
   obtain⟨t1,t2⟩:=hx.keep c hn hc
   exact⟨t1,(World.putObj_heap_other (by omega)).trans t2⟩
  ·rcases hacc with h | ⟨t1,b,t2,t3,t4⟩
   ·exact .inl h
   ·exact .inr ⟨t1,b,by omega,t3,t4⟩
 ·have st:=Aha (Q:=fun e a' w'=>e = .normal∧∃ κ',Ext κ3 w3 κ' w'∧RS A κ' S4 w'∧RF A κ' w' 13 fr4 a') hA (AcU hA k4).1 p4.toList 0 _ ⟨fr2,S4⟩ ⟨fr4,S4⟩ κ3 a2 w3 (fun j=>by simp) hp4 s3 f3 (q3 k4 (Nat.le_refl _)) (fun a' w' κ' k1 k2 k3=>⟨rfl,κ',k1,k2,k3⟩)
  rwa [Array.length_toList,←List.range_eq_range'] at st
end
end Go.Eng
namespace Go.Eng
open Go Go.RowKit
variable [Inhabited GlobT]
theorem rs_only {A:Nat→Prop} {κ:Kap} {S:Store} {w:World} {b sz:Nat} {rows:List (List AVal)} (h:RS A κ S w) (hb:S[b]?=some (some ⟨sz,rows⟩)) (hc:AaX rows=true) :
 ∃ x,κ[b]?=some (some (some x))∧RS A [some (some x)] [some ⟨sz,rows⟩] w:=by
 obtain⟨x,hx,hok⟩:=h.live b _ hb
 have htr:∀ c,Trk [some (some x)] c→Trk κ c:=by
  rintro c ⟨i,y,hi,rfl⟩
  cases i with
  | zero=>cases hi;exact⟨b,_,hx,rfl⟩
  | succ i=>simp at hi
 refine⟨x,hx,rfl,?_,?_,?_,fun c hc=>⟨(h.av c hc).1,fun ht=>(h.av c hc).2 (htr c ht)⟩,h.gl.weak fun c hc=>?_⟩
 ·intro i hi
  cases i with
  | zero=>cases hi
  | succ i=>simp at hi
 ·intro i blk hi
  cases i with
  | zero =>
    cases hi
    exact⟨x,rfl,hok.sz,hok.rn,hok.cells',Ago (fun c hn ha=>hn (ha.elim .inl fun h => .inr (htr c h))) _ _ _ hc hok.rep,hok.ty,trivial,hok.exr⟩
  | succ i=>simp at hi
 ·intro i j y z hi hj _
  cases i with
  | zero=>cases j with
    | zero=>rfl
    | succ j=>simp at hj
  | succ i=>simp at hi
 ·rcases hc with hc | hc
  ·exact .inl hc
  ·exact .inr (htr c hc)
end Go.Eng
namespace Go.Eng
open Go Go.RowKit
variable [Inhabited GlobT]
attribute [local irreducible] OpR TL
theorem rs_nothing {A:Nat→Prop} {κ:Kap} {S:Store} {w:World} (h:RS A κ S w):RS A [] [] w:=by
 have htr:∀ c,¬ Trk [] c:=by
  rintro c ⟨i,y,hi,_⟩
  simp at hi
 refine⟨rfl,fun i hi=>by simp at hi,fun i blk hi=>by simp at hi,fun i j y z hi=>by simp at hi,fun c hc=>⟨(h.av c hc).1,htr c⟩,h.gl.weak fun c hc=>?_⟩
 rcases hc with hc | hc
 ·exact .inl hc
 ·exact(htr c hc).elim
def appG (g sz bytes:Nat):List AVal→Store→Option (AVal × Store)
 | [.nils,.fn (.func g') [] [.rptr [.imm rows]]],[] =>
   if g'=g∧AaX rows=true∧(rows.all fun r=>r.length == sz && r.all storable)=true∧rows.length<4294967296∧rows.length*bytes≤17592186044416 then
    match rows with
    | []=>some (.nils,[])
    | r::rs=>some (.view 0 0 (rs.length+1) false,[some ⟨sz,r::rs⟩])
   else none
 | _,_=>none
section
variable {P:Program} {AP:AaB} (hA:AOk P AP) {o0 o1 o2 o3 o4 ops2 ops3:Array Oper} {sz bytes c0 c1 r0 r1 r2 r3 r4 i2 i3 b1 n g f:Nat} {zero:List AVal} {fnv fna:Func} {p0 p1 p4:Array Oper} {i0' i1' i4' cb:Nat} {pt:TypeId} {px py:Operand}
 (hg:P.funcs[g]?=some fnv)
 (hb:fnv.body=some (.seq (.region r0 o0 false) (.block c0 (.loop (.seq (.region r1 o1 false) (.seq (.cond (.tmp 8) .skip (.exit c0)) (.seq (.block c1 (.seq (.region r2 o2 false) (.seq (.region r3 o3 false) (.cond (.tmp 14) .ret .skip)))) (.region r4 o4 false))))))))
 (hres:fnv.results=#[]) (hnt:fnv.ntmps=16) (hnm:fnv.name ≠ "runtime.NumGoroutine")
 (h0:compileSeq P o0 o0.toList=some [⟨some 5,.load false 1 (.t 1),none,[]⟩,⟨some 6,.len false (.t 5),none,[]⟩,⟨some 7,.move (.c (.int .i64 0)),none,[]⟩])
 (h1:compileSeq P o1 o1.toList=some [⟨some 8,.bin .lss (.t 7) (.t 6),none,[]⟩])
 (h2:compileSeq P o2 o2.toList=some [⟨some 9,.iaddr sz (.t 5) (.t 7),none,[]⟩,⟨some 10,.load true sz (.t 9),none,[]⟩,⟨some 4,.alloc zero,none,[]⟩,⟨none,.store sz (.t 4) (.t 10),none,[]⟩])
 (h3:compileSeq P o3 o3.toList=some [⟨some 11,.move (.t 0),none,[]⟩,⟨some 12,.load true sz (.t 4),none,[]⟩,⟨some 13,.call (.t 11) [.t 12],none,[]⟩,⟨some 14,.un .not (.t 13),none,[]⟩])
 (h4:compileSeq P o4 o4.toList=some [⟨some 15,.bin .add (.t 7) (.c (.int .i64 1)),none,[]⟩,⟨some 7,.move (.t 15),none,[]⟩])
 (d0:∀ (i:Nat) o,o0[i]?=some o→∀ c,o.op ≠ .defer c) (d1:∀ (i:Nat) o,o1[i]?=some o→∀ c,o.op ≠ .defer c) (d2:∀ (i:Nat) o,o2[i]?=some o→∀ c,o.op ≠ .defer c) (d3:∀ (i:Nat) o,o3[i]?=some o→∀ c,o.op ≠ .defer c) (d4:∀ (i:Nat) o,o4[i]?=some o→∀ c,o.op ≠ .defer c)
 (hc2:compileSeq P ops2 ops2.toList=some [⟨some 5,.alloc zero,none,[]⟩,⟨none,.store sz (.t 5) (.t 7),none,[]⟩])
 (hc3:compileSeq P ops3 ops3.toList=some [⟨some 8,.load false 1 (.t 2),none,[]⟩,⟨some 9,.load true sz (.t 5),none,[]⟩,⟨some 10,.buildSlice zero sz 1 [(0,.t 9)],none,[]⟩,⟨some 11,.append sz bytes (.t 8) (.t 10),none,[]⟩,⟨none,.store 1 (.t 2) (.t 11),none,[]⟩])
 (hd2:∀ (i:Nat) o,ops2[i]?=some o→∀ c,o.op ≠ .defer c) (hd3:∀ (i:Nat) o,ops3[i]?=some o→∀ c,o.op ≠ .defer c)
 (hz:zero.length=sz)  (hfnm:fna.name ≠ "runtime.NumGoroutine")
 (hf:P.funcs[f]?=some fna)
 (hfb:fna.body=some (.seq (.region i0' p0 false) (.seq (.seq (.region i1' p1 false) (.block cb (.rangeFunc (.tmp 6) #[7] (.region i2 ops2 false) (.block b1 (.region i3 ops3 false))))) (.seq (.region i4' p4 false) .ret))))
 (hfr:fna.results=#[.tmp 4]) (hfn:fna.ntmps=13)
 (hp0:compileSeq P p0 p0.toList=some [⟨some 2,.box 1 (.t 0),none,[]⟩,⟨some 4,.move (.c .nils),none,[]⟩])
 (hp1:compileSeq P p1 p1.toList=some [⟨some 6,.move (.t 1),none,[]⟩])
 (hp4:compileSeq P p4 p4.toList=some [⟨some 12,.load false 1 (.t 2),none,[]⟩,⟨some 4,.move (.t 12),none,[]⟩])
 (e0:∀ (i:Nat) o,p0[i]?=some o→∀ c,o.op ≠ .defer c) (e1:∀ (i:Nat) o,p1[i]?=some o→∀ c,o.op ≠ .defer c) (e4:∀ (i:Nat) o,p4[i]?=some o→∀ c,o.op ≠ .defer c)
 (e5:∀ (i:Nat) o,p4[i]?=some o→(∃t x,o.op = .load t x)∨∃ x,o.op = .assign x)
include hA hg hb hres hnt hnm h0 h1 h2 h3 h4 d0 d1 d2 d3 d4 hc2 hc3 hd2 hd3 hz hfnm hf hfb hfr hfn hp0 hp1 hp4 e0 e1 e4 e5
theorem app_keep (args:List AVal) (S:Store) (v:AVal) (S1:Store) (h:appG g sz bytes args S=some (v,S1)):KeepDoes P f args S v S1:=by
 unfold appG at h
 split at h
 ·rename_i g' rows
  split at h
  ·rename_i hc
   obtain⟨rfl,hcl,hall,hlen,hby⟩:=hc
   have hrl:∀ r∈rows,r.length=sz∧r.all storable=true:=fun r hr=>by
    have:=List.all_eq_true.1 hall r hr
    simpa using this
   intro A κ w vs hS hv
   have hκ:κ=[]:=List.length_eq_zero_iff.1 hS.len
   subst hκ
   obtain⟨x,y,rfl⟩:∃ x y,vs=[x,y]:=by
    have:=hv.1
    obtain⟨x,r,rfl⟩:=List.exists_cons_of_length_eq_add_one (n:=1) (l:=vs) (by simpa using this.symm)
    obtain⟨y,r,rfl⟩:=List.exists_cons_of_length_eq_add_one (n:=0) (l:=r) (by simpa using this.symm)
    have:r=[]:=by simpa using this
    subst this
    exact⟨x,y,rfl⟩
   have hx:=hv.2 0 _ x rfl rfl
   have hy:=hv.2 1 _ y rfl rfl
   have hcall:=app_call (n:=0) hA hg hb hres hnt hnm h0 h1 h2 h3 h4 d0 d1 d2 d3 d4 hc2 hc3 hd2 hd3 hz hrl hlen hby hf hfb hfr hfn hp0 hp1 hp4 e0 e1 e4 e5 hS hx hy
   refine .inl ⟨fna,hf,hfnm,by rw [hfb];rfl,(callsIn_wide.1 hcall).mono ?_⟩
   rintro e w' ⟨v',rfl,κ',S',av,x1,s1,hacc,hr⟩
   refine⟨v',rfl,?_⟩
   have hext:∀ κ2:Kap,(∀ c,Trk κ2 c→Trk κ' c)→Ext [] w κ2 w':=fun κ2 h2=>by
    refine⟨fun b e hb=>by simp at hb,x1.size,fun c hn hc=>?_,x1.shape,x1.env⟩
    obtain⟨t1,t2⟩:=x1.keep c hn hc
    exact⟨fun ht=>t1 (h2 c ht),t2⟩
   split at h
   ·cases h
    rcases hacc with⟨rfl,_⟩ | ⟨hne,_⟩
    ·exact⟨[],hext [] (by rintro c ⟨i,y,hi,_⟩;simp at hi),rs_nothing s1,hr⟩
    ·exact absurd rfl hne
   ·rename_i r rs
    cases h
    rcases hacc with⟨_,h⟩ | ⟨_,b,_,rfl,hb2⟩
    ·cases h
    ·obtain⟨kb,k1,k2⟩:=rs_only s1 hb2 hcl
     refine⟨[some (some kb)],hext _ ?_,k2,?_⟩
     ·rintro c ⟨i,y,hi,rfl⟩
      cases i with
      | zero=>cases hi;exact⟨b,_,k1,rfl⟩
      | succ i=>simp at hi
     ·obtain⟨e,cb,o,cap,z1,z2,z3⟩:=hr
      rw [k1] at z1
      cases z1
      exact⟨some kb,cb,o,cap,rfl,z2,z3⟩
  ·cases h
 ·cases h
end
end Go.Eng
namespace Go.Eng
open Go
variable [Inhabited GlobT]
attribute [local irreducible] OpR TL
section
variable {P:Program} {AP:AaB} (hA:AOk P AP) {ops2 ops3:Array Oper} {is2 is3:List Aaq} {sz bytes i2 i3 b1 N:Nat}
 (hc2:compileSeq P ops2 ops2.toList=some is2) (hc3:compileSeq P ops3 ops3.toList=some is3)
 (hd2:∀ (i:Nat) o,ops2[i]?=some o→∀ c,o.op ≠ .defer c) (hd3:∀ (i:Nat) o,ops3[i]?=some o→∀ c,o.op ≠ .defer c)
 (hN:12≤N)
include hA hc2 hc3 hd2 hd3 hN
theorem ap_roundG {A:Nat→Prop} {E:Store→Prop} {b0 l D m:Nat} {fn:FuncId} {tmps:Array Value} {fr:List AVal} {pre:List (List AVal)} {κ:Kap} {S:Store} {W:World}
 (hI:AgY A N sz b0 fr (apRec ops2 ops3 i2 i3 b1 fn tmps D .ready none) tmps l D pre κ S W) (hlD:l≠D) (hfr:Fr fr [(2,.ptr b0 0 0)]) (x:Value) (row:List AVal) (xv:AVal) (hx:Rep κ (Avoid A κ) W xv x)
 (hTL:∀ v,S[b0]?=some (some ⟨1,[[v]]⟩)→Acc (b0+1) sz S v pre→TL AP N is2 [(7,xv),(2,.ptr b0 0 0)] S fun m1 S1=>TL AP N is3 m1 S1 fun m' S'=>∃ v',S'[b0]?=some (some ⟨1,[[v']]⟩)∧Acc (b0+1) sz S' v' (pre++[row])∧E S') :
 RoundIn Fence.wide m P l fn (tmps.setIfInBounds 7 x) (.region i2 ops2 false) (.block b1 (.region i3 ops3 false)) W fun e W'=>e = .returned (.bool true)∧∃ κ' S',Ext κ W κ' W'∧AgY A N sz b0 fr (apRec ops2 ops3 i2 i3 b1 fn tmps D .ready none) tmps l D (pre++[row]) κ' S' W'∧E S':=by
 have hF:RF A κ W N (putO fr (some 7) xv) {tmps:=tmps.setIfInBounds 7 x,defers:=[]}:=hI.rf.put (d:=some 7) (by simp;omega) hx
 refine roundIn_of_wpIn trivial ?_
 obtain⟨v0,hb00,hacc0⟩:=hI.box
 refine wpIn_mono (Afq hA hd2 hc2 hI.rs hF (hfr.putO (some 7) xv) (hTL v0 hb00 hacc0)) ?_
 ·rintro e a1 W1 ⟨rfl,κ1,fr1,m1,S1,k1,k2,k3,k4,hTL3⟩
  have hlt:l<W.heap.size:=(Array.getElem?_eq_some_iff.1 hI.L).1
  have hDt:D<W.heap.size:=(Array.getElem?_eq_some_iff.1 hI.K).1
  obtain⟨n1,e1⟩:=k1.keep l hI.nl hlt
  obtain⟨n2,e2⟩:=k1.keep D hI.nD hDt
  have hL1:=e1.trans hI.L
  have hK1:=e2.trans hI.K
  have hlt1:l<W1.heap.size:=(Array.getElem?_eq_some_iff.1 hL1).1
  have hDt1:D<W1.heap.size:=(Array.getElem?_eq_some_iff.1 hK1).1
  refine⟨_,run_beginRound hL1 rfl,wpIn_block ?_⟩
  have sc2:=AcX {apRec ops2 ops3 i2 i3 b1 fn tmps D .ready none with state := .busy} hL1
  have s2:=AjP (r':={apRec ops2 ops3 i2 i3 b1 fn tmps D .ready none with state := .busy}) hL1 k2
  have f2:=rf_same sc2 k3
  have hL2:=World.putObj_heap_same (w:=W1) (o := .loop {apRec ops2 ops3 i2 i3 b1 fn tmps D .ready none with state := .busy}) hlt1
  have hK2:(W1.putObj l (.loop {apRec ops2 ops3 i2 i3 b1 fn tmps D .ready none with state := .busy})).heap[D]?=_:=(World.putObj_heap_other (fun e=>hlD e.symm)).trans hK1
  have hoth:∀ c,c≠l→(W1.putObj l (.loop {apRec ops2 ops3 i2 i3 b1 fn tmps D .ready none with state := .busy})).heap[c]?=W1.heap[c]?:=fun c hc=>World.putObj_heap_other hc
  have hen:Env W1 (W1.putObj l (.loop {apRec ops2 ops3 i2 i3 b1 fn tmps D .ready none with state := .busy})):=⟨rfl,rfl,rfl⟩
  generalize W1.putObj l (.loop {apRec ops2 ops3 i2 i3 b1 fn tmps D .ready none with state := .busy})=W2 at *
  refine wpIn_mono (Afq hA hd3 hc3 s2 f2 k4 hTL3) ?_
  ·rintro e a3 W3 ⟨rfl,κ3,fr3,m3,S3,j1,j2,j3,j4,v',hb',hacc',hE'⟩
   obtain⟨n3,e3⟩:=j1.keep l n1 (by rw [sc2.size];exact hlt1)
   obtain⟨n4,e4⟩:=j1.keep D n2 (by rw [sc2.size];exact hDt1)
   have hL3:=e3.trans hL2
   have hK3:=e4.trans hK2
   have c4:=AcX (apRec ops2 ops3 i2 i3 b1 fn tmps D .ready none) hL3
   have s4:=AjP (r':=apRec ops2 ops3 i2 i3 b1 fn tmps D .ready none) hL3 j2
   have hlt3:l<W3.heap.size:=(Array.getElem?_eq_some_iff.1 hL3).1
   have hL4:=World.putObj_heap_same (w:=W3) (o := .loop (apRec ops2 ops3 i2 i3 b1 fn tmps D .ready none)) hlt3
   have hext:Ext κ1 W1 κ3 (W3.putObj l (.loop (apRec ops2 ops3 i2 i3 b1 fn tmps D .ready none))):=by
    refine⟨j1.kle,?_,?_,?_,?_⟩
    ·rw [c4.size];have:=j1.size;rw [sc2.size] at this;exact this
    ·intro c hc hl
     obtain⟨t1,t2⟩:=j1.keep c hc (by rw [sc2.size];exact hl)
     refine⟨t1,?_⟩
     by_cases e:c=l
     ·subst e;exact hL4.trans hL1.symm
     ·rw [World.putObj_heap_other e,t2,hoth c e]
    ·intro c el n h
     rw [c4.shape]
     exact j1.shape c el n (by rw [sc2.shape];exact h)
    ·exact(hen.trans j1.env).trans ⟨rfl,rfl,rfl⟩
   refine⟨_,_,run_endRound none hL3,rfl,κ3,S3,?_,?_⟩
   ·exact k1.trans hext
   ·have hf4:=(hI.rf.mono k1).mono hext
    exact⟨⟨s4,hf4,⟨v',hb',hacc'⟩,hL4,n3,(World.putObj_heap_other (fun e=>hlD e.symm)).trans hK3,n4⟩,hE'⟩
end
end Go.Eng
namespace Go.Eng
open Go
variable [Inhabited GlobT]
theorem regionYG {P:Program} {AP:AaB} (hA:AOk P AP) {n id l:Nat} {ops:Array Oper} {A:Nat→Prop} {κ:Kap} {S:Store} {w:World} {N:Nat} {fr:List AVal} {a:Act} {m:FM} {Q:Exit→Act→World→Prop} {xv:AVal} {i12:Aaq}
 (hd:∀ (i:Nat) o,ops[i]?=some o→∀ c,o.op ≠ .defer c)
 (hc:compileSeq P ops ops.toList=some [⟨some 11,.move (.t 0),none,[]⟩,i12,⟨some 13,.call (.t 11) [.t 12],none,[]⟩,⟨some 14,.un .not (.t 13),none,[]⟩])
 (hN:15≤N) (hS:RS A κ S w) (hF:RF A κ w N fr a) (hfr:Fr fr m) (h0:lkp m 0=some (.fn (.yield l) [] []))
 (hTL:TL AP N [⟨some 11,.move (.t 0),none,[]⟩,i12] m S fun m' S'=>m'=(12,xv)::(11,.fn (.yield l) [] [])::m∧S'=S)
 (hy:∀ x κ' w',Ext κ w κ' w'→RS A κ' S w'→Rep κ' (Avoid A κ') w' xv x→YieldAt Fence.wide (n - 1) P l #[x] w' fun e w2=>e = .returned (.bool true) ∧
   ∃ κ2 S2,Ext κ' w' κ2 w2∧RS A κ2 S2 w2∧∀ (a2:Act) (fr2:List AVal) κ3 w3,Ext κ2 w2 κ3 w3→RS A κ3 S2 w3→RF A κ3 w3 N fr2 a2→Fr fr2 ((14,.bool false)::(13,.bool true)::m)→Q .normal a2 w3) (hm1:lkp m 11=none) (hm2:lkp m 12=none) :
 (Code.region id ops false).wpIn Fence.wide n P Q a w:=by
 obtain⟨l1,l2,e1,c1,c2,n1⟩:=AcV [⟨some 11,.move (.t 0),none,[]⟩,i12] [⟨some 13,.call (.t 11) [.t 12],none,[]⟩,⟨some 14,.un .not (.t 13),none,[]⟩] ops.toList hc
 obtain⟨l3,l4,e2,c3,c4,n3⟩:=AcV [⟨some 13,.call (.t 11) [.t 12],none,[]⟩] [⟨some 14,.un .not (.t 13),none,[]⟩] l2 c2
 have n4:=Ais _ _ c4
 simp only [List.length_cons,List.length_nil,Nat.zero_add] at n1 n3 n4
 obtain⟨o3,rfl⟩:=List.length_eq_one_iff.1 n3
 have hl:ops.toList=l1++([o3]++l4):=by rw [e1,e2]
 have hsz:ops.size=4:=by rw [←Array.length_toList,hl,List.length_append,List.length_append,n1,n4];rfl
 have hget:∀ j,ops[j]?=(l1++([o3]++l4))[j]?:=fun j=>by rw [←hl];exact Array.getElem?_toList.symm
 refine wpIn_region ?_
 rw [hsz,show List.range 4=List.range' 0 l1.length++([2]++List.range' 3 l4.length) by rw [n1,n4];rfl]
 unfold TL at hTL
 obtain⟨fr1,m1,S1,h1,⟨rfl,rfl⟩,k0,h3⟩:=hTL fr hfr
 refine Adr (Qn:=fun a' w'=>∃ κ',Ext κ w κ' w'∧RS A κ' S1 w'∧RF A κ' w' N fr1 a') hd ?_ _ a w ?_
 ·rintro a1 w1 ⟨κ1,q1,q2,q3⟩
  have ho3:ops[2]?=some o3:=by rw [hget,List.getElem?_append_right (by omega),n1];rfl
  obtain⟨un,hci⟩:=seq_one c3
  obtain⟨hdst,hop,-,hgd⟩:=AcJ hci
  have hg:o3.guard=none:=by
   cases hgg:o3.guard with
   | none=>rfl
   | some jw=>rw [hgg] at hgd;obtain⟨t,_,h⟩:=hgd;cases h
  have hco:compileOp P o3.op=some (.call (.t 11) [.t 12]):=by
   cases hcc:compileOp P o3.op with
   | none=>rw [hcc] at hop;cases hop
   | some ao=>rw [hcc] at hop;exact congrArg some hop.symm
  obtain⟨fo,as,ts,hoo,hfo,has⟩:=call_inv hco
  have has2:∃ x,as=#[x]∧opdA x=some (.t 12):=by
   have hlen:=(q3.opds has).1
   simp only [List.length_map,List.length_cons,List.length_nil] at hlen
   obtain⟨x,hx⟩:=List.length_eq_one_iff.1 hlen.symm
   refine⟨x,by apply Array.ext';rw [hx],?_⟩
   rw [hx] at has
   simp only [opdsA] at has
   cases hxx:opdA x with
   | none=>rw [hxx] at has;cases has
   | some y=>rw [hxx] at has;cases has;rfl
  obtain⟨fx,rfl,hfx⟩:=has2
  have hwant:Region.wanted o3 (yielded ops a1.tmps)=true:=by unfold Region.wanted;rw [hg]
  rw [List.singleton_append]
  unfold wpOpsIn
  simp only [ho3,hwant,if_true]
  have r1:=q3.opd hfo
  have r2:=q3.opd hfx
  rw [h1.opd (v := .fn (.yield l) [] []) rfl] at r1
  rw [h1.opd (v:=xv) rfl] at r2
  obtain⟨y1,y2,t1,t2,t3,-,-⟩:=r1
  have hf:a1.eval fo = .func (.yield l) #[] #[]:=by
   rw [t1,Array.eq_empty_of_size_eq_zero t2,Array.eq_empty_of_size_eq_zero t3]
  refine opIn_yield hoo hf ?_
  obtain⟨fn,tm,asg,bd,u1,u2⟩:=hy _ κ1 w1 q1 q2 r2
  refine⟨fn,tm,asg,bd,by simpa using u1,u2.mono ?_⟩
  rintro e w2 ⟨rfl,κ2,S2,p1,p2,p3⟩
  refine⟨rfl,?_⟩
  have hd13:o3.dst=some 13:=hdst.symm
  rw [hd13]
  have f2:=(q3.mono p1).put (d:=some 13) (x := .bool true) (v := .bool true) (by simp;omega) rfl
  have fr2:=h1.putO (some 13) (.bool true)
  have hTL2:TL AP N [⟨some 14,.un .not (.t 13),none,[]⟩] (putM ((12,xv)::(11,.fn (.yield l) [] [])::m) (some 13) (.bool true)) S2 fun m' S'=>Wk m' ((14,.bool false)::(13,.bool true)::m)∧S'=S2:=by
   refine Aae (o_un (v := .bool false) rfl rfl) rfl (by simp;omega) rfl rfl ?_
   refine Aac ⟨fun k v hk=>?_,rfl⟩
   simp only [putM,lkp] at hk ⊢
   have ne:∀ j,lkp m j=none→Nat.beq j k=true→lkp m k=some v→False:=fun j hj e h=>by
    have:=Nat.eq_of_beq_eq_true e;subst this;rw [hj] at h;cases h
   cases hb14:Nat.beq 14 k with
   | true=>simp only [hb14] at hk ⊢;exact hk
   | false =>
     cases hb13:Nat.beq 13 k with
     | true=>simp only [hb14,hb13] at hk ⊢;exact hk
     | false =>
       simp only [hb14,hb13] at hk ⊢
       cases hb12:Nat.beq 12 k with
       | true=>exact(ne 12 hm2 hb12 hk).elim
       | false =>
         cases hb11:Nat.beq 11 k with
         | true=>exact(ne 11 hm1 hb11 hk).elim
         | false=>exact hk
  unfold TL at hTL2
  obtain⟨fr3,m3,S3,g1,⟨g2,rfl⟩,k3,g3⟩:=hTL2 _ fr2
  have:=Adr (n:=n) (P:=P) (ops:=ops) (Q:=Q) (rest:=[]) (Qn:=fun a' w'=>∃ κ',Ext κ2 w2 κ' w'∧RS A κ' S3 w'∧RF A κ' w' N fr3 a') hd (fun a' w' ⟨κ',b1,b2,b3⟩=>?_) (List.range' 3 l4.length) (a1.put (some 13) (.bool true)) w2 ?_
  ·rwa [List.append_nil] at this
  ·exact p3 a' fr3 κ' w' b1 b2 b3 (g1.wk g2)
  ·have st:=Age (rest:=[]) (Q:=fun e a' w'=>e = .normal∧∃ κ',Ext κ2 w2 κ' w'∧RS A κ' S3 w'∧RF A κ' w' N fr3 a') hA (AcU hA k3).1 l4 3 _ ⟨_,S3⟩ ⟨fr3,S3⟩ κ2 (a1.put (some 13) (.bool true)) w2 (fun j o hj=>by
    rw [hget,List.getElem?_append_right (by omega),n1,List.singleton_append,show 3+j - 2=j+1 by omega];exact hj) c4 p2 f2 (g3 k3 (Nat.le_refl _)) (fun a' w' κ' q1 q2 q3=>⟨rfl,κ',q1,q2,q3⟩)
   rwa [List.append_nil] at st
 ·have:=Age (rest:=[]) (Q:=fun e a' w'=>e = .normal∧∃ κ',Ext κ w κ' w'∧RS A κ' S1 w'∧RF A κ' w' N fr1 a') hA (AcU hA k0).1 l1 0 _ ⟨fr,S1⟩ ⟨fr1,S1⟩ κ a w (fun j o hj=>by rw [Nat.zero_add,hget,List.getElem?_append_left (List.getElem?_eq_some_iff.1 hj).1];exact hj) c1 hS hF (h3 k0 (Nat.le_refl _)) (fun a' w' κ' q1 q2 q3=>⟨rfl,κ',q1,q2,q3⟩)
  rwa [List.append_nil] at this
end Go.Eng
namespace Go.Eng
open Go Go.RowKit
variable [Inhabited GlobT]
attribute [local irreducible] OpR TL
def Anm:Extra→Bool
 | .iter .. => true
 | _=>false
theorem AgY.up {A:Nat→Prop} {N sz b0:Nat} {fr:List AVal} {rec:Loop} {tmps:Array Value} {l D:Nat} {pre:List (List AVal)} {κ κ':Kap} {S:Store} {W W':World} {q:Nat} {x x':Extra}
 (h:AgY A N sz b0 fr rec tmps l D pre κ S W) (he:Ext κ W κ' W') (hq:S[q]?=some (some (xblk x))) (hx:Anm x=true) (hS:RS A κ' (S.set q (some (xblk x'))) W'):AgY A N sz b0 fr rec tmps l D pre κ' (S.set q (some (xblk x'))) W':=by
 obtain⟨n1,e1⟩:=he.keep l h.nl (Array.getElem?_eq_some_iff.1 h.L).1
 obtain⟨n2,e2⟩:=he.keep D h.nD (Array.getElem?_eq_some_iff.1 h.K).1
 obtain⟨v,hb,ha⟩:=h.box
 have ne:∀ (b:Nat) (sz:Nat) (rows:List (List AVal)),S[b]?=some (some ⟨sz,rows⟩)→¬ (b=q∧q<S.length):=by
  rintro b sz rows hb ⟨rfl,_⟩
  rw [hb] at hq
  injection hq with hq
  injection hq with hq
  have:(⟨sz,rows⟩:ABlock).exOf=(xblk x).exOf:=by rw [hq]
  have h2:Extra.no=x:=this
  rw [←h2] at hx
  cases hx
 refine⟨hS,h.rf.mono he,⟨v,?_,?_⟩,e1.trans h.L,n1,e2.trans h.K,n2⟩
 ·rw [Aag,if_neg (fun hc=>ne _ _ _ hb ⟨hc.1.symm,hc.2⟩)];exact hb
 ·rcases ha with ha | ⟨t1,b,t2,t3,t4⟩
  ·exact .inl ha
  ·exact .inr ⟨t1,b,t2,t3,by rw [Aag,if_neg (fun hc=>ne _ _ _ t4 ⟨hc.1.symm,hc.2⟩)];exact t4⟩
def KeepX (S S':Store):Prop:=∀ (q:Nat) (x:Extra),Anm x=true→S[q]?=some (some (xblk x))→S'[q]?=some (some (xblk x))
def IterOk (P:Program) (A:Nat→Prop) (n g:Nat) (cap:AVal) (xv:List AVal→AVal) (rows:List (List AVal)) (E:Store→Prop):Prop :=
 ∀ (l:Nat) (J:List (List AVal)→Kap→Store→World→Prop),(∀ pre κ S W,J pre κ S W→RS A κ S W∧E S) →
  (∀ pre κ S W κ' W',J pre κ S W→Ext κ W κ' W'→RS A κ' S W'→J pre κ' S W') →
  (∀ pre κ S W κ' W' blk,J pre κ S W→Ext κ W κ' W'→RS A κ' (S++[blk]) W'→J pre κ' (S++[blk]) W') →
  (∀ pre κ S W κ' W' q x x',J pre κ S W→Ext κ W κ' W'→S[q]?=some (some (xblk x))→Anm x=true→RS A κ' (S.set q (some (xblk x'))) W'→J pre κ' (S.set q (some (xblk x'))) W') →
  (∀ pre row κ S W x,row∈rows→pre.length<rows.length→J pre κ S W→Rep κ (Avoid A κ) W (xv row) x→YieldAt Fence.wide (n - 1) P l #[x] W fun e W'=>e = .returned (.bool true)∧∃ κ' S',Ext κ W κ' W'∧J (pre++[row]) κ' S' W'∧KeepX S S') →
  ∀ κ S W ptr,J [] κ S W→Rep κ (Avoid A κ) W cap ptr→CallsIn Fence.wide n P g #[.func (.yield l) #[] #[],ptr] W fun e W'=>(∃v,e = .returned v)∧∃ κ' S',Ext κ W κ' W'∧J rows κ' S' W'
section
variable {P:Program} {AP:AaB} (hA:AOk P AP) {ops2 ops3:Array Oper} {is2 is3:List Aaq} {sz i2 i3 b1 n g N:Nat} {rows:List (List AVal)} {fnv:Func} {cap:AVal} {xv:List AVal→AVal} {E:Store→Prop} {A:Nat→Prop}
 (hg:P.funcs[g]?=some fnv) (hnm:fnv.name ≠ "runtime.NumGoroutine") (hbs:fnv.body.isSome=true)
 (hc2:compileSeq P ops2 ops2.toList=some is2) (hc3:compileSeq P ops3 ops3.toList=some is3)
 (hd2:∀ (i:Nat) o,ops2[i]?=some o→∀ c,o.op ≠ .defer c) (hd3:∀ (i:Nat) o,ops3[i]?=some o→∀ c,o.op ≠ .defer c)
 (hN:12≤N) (hit:IterOk P A (n - 1) g cap xv rows E) (hEal:∀ S blk,E S→E (S++[blk]))
 (hEup:∀ S q x x',E S→S[q]?=some (some (xblk x))→Anm x=true→E (S.set q (some (xblk x'))))
include hA hg hnm hbs hc2 hc3 hd2 hd3 hN hit hEal hEup
theorem app_rangeG {κ:Kap} {S:Store} {w:World} {fr:List AVal} {a:Act} {b0:Nat} {Q:Exit→Act→World→Prop}
 (hS:RS A κ S w) (hF:RF A κ w N fr a) (hfr:Fr fr [(2,.ptr b0 0 0),(6,.fn (.func g) [] [cap])]) (hbx:S[b0]?=some (some ⟨1,[[.nils]]⟩)) (hun:get fr N = .undef) (hES:E S)
 (hTL:∀ (pre:List (List AVal)) (row:List AVal) (v:AVal) (S:Store),row∈rows→pre.length<rows.length→E S→S[b0]?=some (some ⟨1,[[v]]⟩)→Acc (b0+1) sz S v pre→TL AP N is2 [(7,xv row),(2,.ptr b0 0 0)] S fun m1 S1=>TL AP N is3 m1 S1 fun m' S'=>∃ v',S'[b0]?=some (some ⟨1,[[v']]⟩)∧Acc (b0+1) sz S' v' (pre++[row])∧E S'∧KeepX S S')
 (hq:∀ (ds:List Deferred) (D:Nat) (w':World) κ' S' v,ds=[{target := .collected D,args:=#[]}]→Ext κ w κ' w'→RS A κ' S' w'→S'[b0]?=some (some ⟨1,[[v]]⟩)→Acc (b0+1) sz S' v rows→E S'→w'.heap[D]?=some (.deferred (some []))→¬ Trk κ' D→w.heap.size≤D→Q .normal {a with defers:=ds} w') :
 (Code.rangeFunc (.tmp 6) #[7] (.region i2 ops2 false) (.block b1 (.region i3 ops3 false))).wpIn Fence.wide n P Q a w:=by
 have h6:=hF.tmp 6
 rw [hfr 6 _ rfl] at h6
 obtain⟨x,y,e1,e2,e3,-,e5⟩:=h6
 obtain⟨ptr,hptr,hrep⟩:∃ ptr,y=#[ptr]∧Rep κ (Avoid A κ) w cap ptr:=by
  obtain⟨⟨v,v1,v2⟩,-⟩:=e5
  refine⟨v,?_,v2⟩
  apply Array.ext'
  have:y.toList.length=1:=by simpa using e3
  obtain⟨z,hz⟩:=List.length_eq_one_iff.1 this
  have hz0:y[0]?=some z:=by rw [←Array.getElem?_toList,hz];rfl
  have v1':y[0]?=some v:=v1
  rw [v1'] at hz0;cases hz0
  rw [hz]
 have hx0:x=#[]:=Array.eq_empty_of_size_eq_zero e2
 subst hptr hx0
 refine wpIn_rangeFunc ?_
 intro fn hfn
 have hda:a.defers=[]:=by have:=hF.defers;rw [hun] at this;exact this
 obtain⟨W0,hW0⟩:∃ W0,w.alloc (.deferred (some []))=W0:=⟨_,rfl⟩
 obtain⟨W1,hW1⟩:∃ W1,W0.alloc (.loop (apRec ops2 ops3 i2 i3 b1 fn a.tmps w.heap.size .ready none))=W1:=⟨_,rfl⟩
 have s0:W0.heap.size=w.heap.size+1:=by rw [←hW0];exact World.size_alloc _ _
 have s1:W1.heap.size=w.heap.size+2:=by rw [←hW1,World.size_alloc,s0]
 have x1:Ext κ w κ W1:=by rw [←hW1,←hW0];exact(AgD _).trans (AgD _)
 have hS1:RS A κ S W1:=by rw [←hW1,←hW0];exact AiX _ (AiX _ hS)
 have hL:W1.heap[w.heap.size+1]?=some (.loop (apRec ops2 ops3 i2 i3 b1 fn a.tmps w.heap.size .ready none)):=by
  rw [←hW1,←s0];exact World.alloc_heap_new _ _
 have hK:W1.heap[w.heap.size]?=some (.deferred (some [])):=by
  rw [←hW1,Below.heap_alloc _ _ _ (by omega),←hW0];exact World.alloc_heap_new _ _
 have hntr:∀ c,w.heap.size≤c→¬ Trk κ c:=by
  rintro c hc ⟨b,x,hx,rfl⟩
  have:=hS.lt hx
  omega
 have hI:AgY A N sz b0 fr (apRec ops2 ops3 i2 i3 b1 fn a.tmps w.heap.size .ready none) a.tmps (w.heap.size+1) w.heap.size [] κ S W1:=by
  refine⟨hS1,?_,⟨.nils,hbx,AgX⟩,hL,hntr _ (by omega),hK,hntr _ (Nat.le_refl _)⟩
  have:=hF.mono x1
  have e:({tmps:=a.tmps,defers:=[]}:Act)=a:=by rw [←hda]
  rw [e];exact this
 refine⟨w.heap.size+1,[{target := .collected w.heap.size,args:=#[]}],W1,{target := .fn (.func g) #[ptr],args:=#[.func (.yield (w.heap.size+1)) #[] #[]]},W1,g,
  #[.func (.yield (w.heap.size+1)) #[] #[],ptr],W1,?_,?_,?_,?_,?_,?_⟩
 ·rw [←hW1,←hW0];exact run_enterLoop_outer _ _ _ _ _
 ·have e1':a.tmps[6]?.getD undef = .func (.func g) #[] #[ptr]:=by
   rw [←e1];simp [Act.eval]
  simp [resolve,go_sem,e1']
 ·intro _ _;trivial
 ·obtain⟨bd,hbd⟩:=Option.isSome_iff_exists.1 hbs
  simp [invoke,go_sem,callFunc,hg,hnm,hbd]
 ·intro hh;exact Bool.noConfusion (show false=true from hh)
 ·refine(hit (w.heap.size+1)
   (fun pre κ S W=>AgY A N sz b0 fr (apRec ops2 ops3 i2 i3 b1 fn a.tmps w.heap.size .ready none) a.tmps (w.heap.size+1) w.heap.size pre κ S W∧E S)
   (fun pre κ S W h=>⟨h.1.rs,h.2⟩) (fun pre κ S W κ' W' h he hs=>⟨h.1.st he hs,h.2⟩) (fun pre κ S W κ' W' blk h he hs=>⟨h.1.al he hs,hEal _ _ h.2⟩) (fun pre κ S W κ' W' q x x' h he hq hx hs=>⟨h.1.up he hq hx hs,hEup _ _ _ _ h.2 hq hx⟩) ?_ κ S W1 ptr ⟨hI,hES⟩ (AbD (x1.pres A) _ _ hrep)).mono ?_
  ·intro pre row κ S W x hm hpl ⟨hI,hE⟩ hx
   refine⟨fn,a.tmps.setIfInBounds 7 x,.region i2 ops2 false,.block b1 (.region i3 ops3 false),?_,?_⟩
   ·have:=run_yield (P:=P) (args:=#[x]) hI.L rfl
    simpa [apRec] using this
   ·refine(ap_roundG (E:=fun S'=>E S'∧KeepX S S') hA hc2 hc3 hd2 hd3 hN hI (by omega) (hfr.wk (Aah rfl Aan)) x row (xv row) hx (fun v hb ha=>hTL pre row v S hm hpl hE hb ha)).mono ?_
    rintro e W' ⟨rfl,κ',S',q1,q2,q3,q4⟩
    exact⟨rfl,κ',S',q1,⟨q2,q3⟩,q4⟩
  ·rintro e W2 ⟨⟨v,rfl⟩,κ2,S2,x2,hI2,hE2⟩
   have hend:=run_endLoop (P:=P) hI2.L (by simp [apRec])
   refine⟨none,_,hend,?_⟩
   have sc:=AcX {apRec ops2 ops3 i2 i3 b1 fn a.tmps w.heap.size .ready none with state := .exhausted} hI2.L
   obtain⟨vv,hb1,hb2⟩:=hI2.box
   have y:=x1.trans x2
   show Q .normal {a with defers:=[{target := .collected w.heap.size,args:=#[]}]++a.defers} _
   rw [hda]
   refine hq _ w.heap.size _ κ2 S2 vv rfl ⟨y.kle,by rw [sc.size];exact y.size,fun c hn hc=>?_,fun c el n h=>by rw [sc.shape];exact y.shape c el n h,y.env.trans ⟨rfl,rfl,rfl⟩⟩ (AjP hI2.L hI2.rs) hb1 hb2 hE2 ((World.putObj_heap_other (by omega)).trans hI2.K) hI2.nD (Nat.le_refl _)
   obtain⟨t1,t2⟩:=y.keep c hn hc
   exact⟨t1,(World.putObj_heap_other (by omega)).trans t2⟩
end
end Go.Eng
namespace Go.Eng
open Go Go.RowKit
variable [Inhabited GlobT]
attribute [local irreducible] OpR TL
section
variable {P:Program} {AP:AaB} (hA:AOk P AP) {ops2 ops3 p0 p1 p4:Array Oper} {is2 is3:List Aaq} {sz i2 i3 b1 n g f i0' i1' i4' cb:Nat} {rows:List (List AVal)} {fnv fna:Func} {cap:AVal} {xv:List AVal→AVal} {E:Store→Prop} {A:Nat→Prop}
 (hg:P.funcs[g]?=some fnv) (hnm:fnv.name ≠ "runtime.NumGoroutine") (hbs:fnv.body.isSome=true)
 (hc2:compileSeq P ops2 ops2.toList=some is2) (hc3:compileSeq P ops3 ops3.toList=some is3)
 (hd2:∀ (i:Nat) o,ops2[i]?=some o→∀ c,o.op ≠ .defer c) (hd3:∀ (i:Nat) o,ops3[i]?=some o→∀ c,o.op ≠ .defer c)
 (hit:IterOk P A (n - 1) g cap xv rows E) (hEal:∀ S blk,E S→E (S++[blk]))
 (hEup:∀ S q x x',E S→S[q]?=some (some (xblk x))→Anm x=true→E (S.set q (some (xblk x'))))
 (hf:P.funcs[f]?=some fna)
 (hfb:fna.body=some (.seq (.region i0' p0 false) (.seq (.seq (.region i1' p1 false) (.block cb (.rangeFunc (.tmp 6) #[7] (.region i2 ops2 false) (.block b1 (.region i3 ops3 false))))) (.seq (.region i4' p4 false) .ret))))
 (hfr:fna.results=#[.tmp 4]) (hfn:fna.ntmps=13)
 (hp0:compileSeq P p0 p0.toList=some [⟨some 2,.box 1 (.t 0),none,[]⟩,⟨some 4,.move (.c .nils),none,[]⟩])
 (hp1:compileSeq P p1 p1.toList=some [⟨some 6,.move (.t 1),none,[]⟩])
 (hp4:compileSeq P p4 p4.toList=some [⟨some 12,.load false 1 (.t 2),none,[]⟩,⟨some 4,.move (.t 12),none,[]⟩])
 (e0:∀ (i:Nat) o,p0[i]?=some o→∀ c,o.op ≠ .defer c) (e1:∀ (i:Nat) o,p1[i]?=some o→∀ c,o.op ≠ .defer c) (e4:∀ (i:Nat) o,p4[i]?=some o→∀ c,o.op ≠ .defer c)
 (e5:∀ (i:Nat) o,p4[i]?=some o→(∃t x,o.op = .load t x)∨∃ x,o.op = .assign x)
include hA hg hnm hbs hc2 hc3 hd2 hd3 hit hEal hEup hf hfb hfr hfn hp0 hp1 hp4 e0 e1 e4 e5
theorem app_callG {κ:Kap} {S:Store} {w:World} {x y:Value} (hS:RS A κ S w) (hx:Rep κ (Avoid A κ) w .nils x) (hy:Rep κ (Avoid A κ) w (.fn (.func g) [] [cap]) y) (hES:E S)
 (hTL:∀ (pre:List (List AVal)) (row:List AVal) (v:AVal) (S':Store),row∈rows→pre.length<rows.length→E S'→S'[S.length]?=some (some ⟨1,[[v]]⟩)→Acc (S.length+1) sz S' v pre→TL AP 13 is2 [(7,xv row),(2,.ptr S.length 0 0)] S' fun m1 S1=>TL AP 13 is3 m1 S1 fun m' S2=>∃ v',S2[S.length]?=some (some ⟨1,[[v']]⟩)∧Acc (S.length+1) sz S2 v' (pre++[row])∧E S2∧KeepX S' S2) :
 CallsIn Fence.wide n P f #[x,y] w fun e w'=>∃ v,e = .returned v∧∃ κ' S' av,Ext κ w κ' w'∧RS A κ' S' w'∧Acc S.length sz S' av rows∧E S'∧Rep κ' (Avoid A κ') w' av v:=by
 have hv:RepV κ (Avoid A κ) w [.nils,.fn (.func g) [] [cap]] [x,y]:=AcG hx (AcG hy .nil)
 refine callsIn_of_wp_marks hf hfb trivial ?_
 have hF:=AlE (N:=13) (nt:=fna.ntmps) hv (by omega) (by simp;omega) hS.gl (by simp)
 have hfr0:Fr [AVal.nils,.fn (.func g) [] [cap]] [(0,.nils),(1,.fn (.func g) [] [cap]),(13,.undef)]:=by
  exact fr_end (k:=13) (m:=[(0,.nils),(1,.fn (.func g) [] [cap])]) (by simp) (AjX [.nils,.fn (.func g) [] [cap]])
 refine wpIn_seq (AbB (K:=fun m' S'=>m'=(4,.nils)::(2,.ptr S.length 0 0)::[(0,.nils),(1,.fn (.func g) [] [cap]),(13,.undef)]∧S'=S++[some ⟨1,[[.nils]]⟩]) hA e0 hp0 hS hF hfr0 ?_ ?_)
 ·have hb:=o_box (AP:=AP) (slot:=S.length) (m:=[(0,AVal.nils),(1,.fn (.func g) [] [cap]),(13,.undef)]) (S:=S++[none]) (sz:=1) (x := .t 0) (v := .nils) (cs:=[.nils]) rfl rfl rfl rfl
  refine Abh hb rfl rfl rfl rfl ?_
  rw [AbC]
  refine Aae (Abd rfl) rfl rfl rfl rfl ?_
  exact Aac ⟨rfl,rfl⟩
 rintro a1 w1 κ1 fr1 m1 S1 x1 s1 f1 g1 ⟨rfl,rfl⟩
 refine wpIn_seq (wpIn_seq (AbB (K:=fun m' S'=>m'=(6,.fn (.func g) [] [cap])::(4,.nils)::(2,.ptr S.length 0 0)::[(0,.nils),(1,.fn (.func g) [] [cap]),(13,.undef)]∧S'=S++[some ⟨1,[[.nils]]⟩]) hA e1 hp1 s1 f1 g1 ?_ ?_))
 ·refine Aae (Abd rfl) rfl rfl rfl rfl ?_
  exact Aac ⟨rfl,rfl⟩
 rintro a2 w2 κ2 fr2 m2 S2 x2 s2 f2 g2 ⟨rfl,rfl⟩
 refine wpIn_block (app_rangeG (N:=13) (b0:=S.length) hA hg hnm hbs hc2 hc3 hd2 hd3 (by omega) hit hEal hEup s2 f2 (g2.wk (Aah rfl (Aah rfl Aan))) Abc (g2 13 _ rfl) (hEal _ _ hES) hTL ?_)
 intro ds D w3 κ3 S3 v hds x3 s3 hv3 hacc hE3 hD hnD hDle
 have f3:=f2.mono x3
 have hTL:TL AP 13 [⟨some 12,.load false 1 (.t 2),none,[]⟩,⟨some 4,.move (.t 12),none,[]⟩] [(2,.ptr S.length 0 0)] S3 fun m' S'=>lkp m' 4=some v∧S'=S3:=by
  refine Aae (AaG (g:=false) (sz:=1) rfl hv3 (r:=[v]) rfl (Nat.le_refl _) rfl) rfl rfl rfl rfl ?_
  refine Aae (Abd rfl) rfl rfl rfl rfl ?_
  exact Aac ⟨rfl,rfl⟩
 unfold TL at hTL
 obtain⟨fr4,m4,S4,q1,⟨q2,rfl⟩,k4,q3⟩:=hTL fr2 (g2.wk (Aah rfl Aan))
 refine wpIn_seq (wpIn_region ?_)
 refine Ads (Qn:=fun a w=>∃ κ4,Ext κ3 w3 κ4 w∧RS A κ4 S4 w∧RF A κ4 w 13 fr4 a) e4 ?_ ?_ (List.range p4.size) a2 w3 ?_
 ·intro i o ho ρ w d w'
  rcases e5 i o ho with⟨t,x,h⟩ | ⟨x,h⟩
  ·exact Aji h ρ w d w'
  ·exact Agu h ρ w d w'
 ·rintro a5 w5 ⟨κ5,x5,s5,f5⟩
  refine wpIn_ret ?_
  subst hds
  obtain⟨nD5,eD5⟩:=x5.keep D hnD (Array.getElem?_eq_some_iff.1 hD).1
  have hD5:=eD5.trans hD
  have sc:=Amp (.deferred none) hD5 rfl rfl
  have hx:=((x1.trans x2).trans x3).trans x5
  have r5:=f5.tmp 4
  rw [q1 4 _ q2] at r5
  refine⟨by simp,.inl ⟨_,_,rfl,run_takeDeferred hD5,?_⟩⟩
  refine⟨_,results_tmp hfr _ _ _,a5.eval (.tmp 4),?_,κ5,S4,v,?_,rs_put _ hD5 rfl rfl rfl s5,?_,hE3,Aew sc _ _ r5⟩
  ·simp [Act.eval]
  ·have hle:=(x1.trans x2).size
   refine⟨hx.kle,by rw [sc.size];exact hx.size,fun c hn hc=>?_,fun c el n h=>by rw [sc.shape];exact hx.shape c el n h,hx.env.trans ⟨rfl,rfl,rfl⟩⟩
   obtain⟨t1,t2⟩:=hx.keep c hn hc
   exact⟨t1,(World.putObj_heap_other (by omega)).trans t2⟩
  ·rcases hacc with h | ⟨t1,b,t2,t3,t4⟩
   ·exact .inl h
   ·exact .inr ⟨t1,b,by omega,t3,t4⟩
 ·have st:=Aha (Q:=fun e a' w'=>e = .normal∧∃ κ',Ext κ3 w3 κ' w'∧RS A κ' S4 w'∧RF A κ' w' 13 fr4 a') hA (AcU hA k4).1 p4.toList 0 _ ⟨fr2,S4⟩ ⟨fr4,S4⟩ κ3 a2 w3 (fun j=>by simp) hp4 s3 f3 (q3 k4 (Nat.le_refl _)) (fun a' w' κ' k1 k2 k3=>⟨rfl,κ',k1,k2,k3⟩)
  rwa [Array.length_toList,←List.range_eq_range'] at st
end
end Go.Eng
