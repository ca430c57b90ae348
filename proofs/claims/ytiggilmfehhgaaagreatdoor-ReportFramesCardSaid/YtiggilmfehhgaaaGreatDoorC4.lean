/- The sealed boxes are proved; no condition. -/
import Derived.Test.YtiggilmfehhgaaaGreatDoorC3
import Derived.Test.YtiggilmfehhgaaaGreatDoorE5
set_option linter.unusedSectionVars false
set_option linter.unusedVariables false
set_option linter.unusedSimpArgs false
set_option linter.unnecessarySimpa false
namespace Go.Eng.Ses
open Go Go.Eng
variable [Inhabited GlobT]
theorem encP_len (W b:List UInt8):(encP W b).length=16:=encS_len W b 10
attribute [local irreducible] OpR TL TD TC TS Aaz encP putB schP
section
variable {AP:AaB} {m:FM} {S:Store} {slot:Nat}
theorem o_toArr {l:List UInt8} {b len n:Nat} {full:Bool} {x:AOpd} (hx:lo m x=some (.view b 0 len full)) (h1:S[b]?=some (some ⟨1,l.map fun b=>[.int .u8 (b.toNat:Int)]⟩)) (h0:0<n) (hn:l.length=n) (h2:len=l.length) :
 OpR AP m slot S (.toArr n 1 x) (.rptr (l.map g8)) (S.set b none) ([b],[b]) :=
 opr_w fun fr hfr f=>by
  have hc:(True∧0<n∧n≤len∧0+len≤(l.map fun b=>[AVal.int .u8 (b.toNat:Int)]).length):=⟨trivial,h0,by omega,by simp;omega⟩
  simp only [semX,sem,hfr.opd hx,RM.run,h1]
  rw [if_pos hc]
  subst hn
  have e:(l.map fun b=>[AVal.int .u8 (b.toNat:Int)]).length=l.length:=by simp
  rw [List.drop_zero,←e,List.take_length,AfE]
  rfl
theorem o_loadRW {sz:Nat} {a:AOpd} {r:List AVal} (h:lo m a=some (.rptr r)) (h2:r.length=sz):OpR AP m slot S (.load true sz a) (.agg r) S ([],[]) :=
 AjR h (by omega) (by
  subst h2
  simp only [Acg,if_true,Nat.le_refl,List.take_length])
end
def ctrB (q n:BitVec 64):List UInt8:=putB q 8++putB n 8
@[simp] theorem ctrB_len (q n:BitVec 64):(ctrB q n).length=16:=by simp [ctrB]
theorem Alj (q n:BitVec 64):Aaz AP0 Afz [w64 q,w64 n] (.agg ((ctrB q n).map g8)):=by
 obtain⟨C,hC⟩:∃ C,ctrB q n=C:=⟨_,rfl⟩
 have hl:=ctrB_len q n
 rw [hC] at hl ⊢
 refine Aav (af:=AiC) rfl rfl ?_
 refine Aab (Aad (Aaa 1 rfl (Aac (Aab (Aad (Aaa 1 rfl ?_))))))
 refine Aap rfl rfl (AkV _ 8 (by omega)) rfl rfl rfl rfl rfl rfl ?_;refine Aaa 1 rfl ?_
 refine Aap rfl rfl (AkV _ 8 (by omega)) rfl rfl rfl rfl rfl rfl ?_;refine Aae (AdD rfl rfl (by simp)) rfl rfl rfl rfl ?_
 refine Abh (Ani rfl) rfl rfl rfl rfl ?_
 rw [show putB q 8++putB n 8=C from hC]
 refine Aae (o_toArr rfl rfl (by decide) hl rfl) rfl rfl rfl rfl ?_
 refine Aae (o_loadRW rfl (by simpa using hl)) rfl rfl rfl rfl ?_
 refine Aae (Abf rfl rfl rfl rfl (by simpa using hl) (AaF (fun _=>rfl) _)) rfl rfl rfl rfl ?_
 refine Aac (AaD (AcO (sz':=16) rfl rfl (by simpa using hl) (AaL (fun _=>rfl) _)))
def turnC (W:List UInt8) (q:BitVec 64) (s:List UInt8) (i:Nat):UInt8:=UInt8.ofBitVec ((s.getD i 0).toBitVec ^^^ ((encP W (ctrB q (BitVec.ofNat 64 (i / 16)))).getD (i%16) 0).toBitVec)
def ctrP (W:List UInt8) (q:BitVec 64) (s:List UInt8):List UInt8:=(List.range s.length).map (turnC W q s)
@[simp] theorem ctrP_len (W:List UInt8) (q:BitVec 64) (s:List UInt8):(ctrP W q s).length=s.length:=by simp [ctrP]
theorem ctrP_def (W:List UInt8) (q:BitVec 64) (s:List UInt8):(List.range s.length).map (turnC W q s)=ctrP W q s:=rfl
theorem Air (W s:List UInt8) (q:BitVec 64) (hW:W.length=176) (hs:s.length<4294967296):Aaz AP0 Ahr [.agg (keyC W),w64 q,.str s] (.str (ctrP W q s)):=by
 have hkl:=AdP W hW
 have hks:=Agv W
 have hkc:=AjU W
 refine Aav (af:=AkF) rfl rfl ?_
 refine Aab (Aad ?_)
 refine Abh (Afa rfl hkl) rfl rfl rfl rfl ?_
 refine Aaa 1 rfl (Aac (Aab (Aad (Aaa 1 rfl ?_))));refine Abh (Ani rfl) rfl rfl rfl rfl ?_
 refine Aaa 1 rfl (Aac (Aab (Aab (Aad (Aaa 1 rfl (Aac ?_))))))
 refine Aak (AaE (σ:=Nat) (fun j=>s.length - 16*j) (fun j=>[(1,w64 q),(3,.ptr 0 0 0),(7,.view 1 0 s.length false),(8,n64 (16*j))])
  (fun j S=>16*j<s.length+16∧S[0]?=some (some ⟨433,[keyC W]⟩)∧S[1]?=some (some ⟨1,(updA (turnC W q s) s (min (16*j) s.length)).map g8r⟩)) 0 (by (repeat' (first | exact Aan | refine Aah rfl ?_))) ⟨by omega,rfl,by rw [Nat.mul_zero,Nat.zero_min,AlZ];rfl⟩ ?_)
 rintro j S ⟨hj,h0,h1⟩
 refine Aab (Aab (Aad (Aaa 4 rfl (Aac ?_))))
 refine Aar rfl decide_eq_true_iff (fun h=>Aao ?_) (fun h=>AaA ?_)
 ·have hj':16*j<s.length:=by omega
  have he:=enc_ok W (ctrB q (BitVec.ofNat 64 j)) hW (by simp)
  refine Aab ?_;refine Aak ?_;refine Aab ?_;refine AdK [none] rfl ?_
  refine Aai rfl rfl (AbM rfl (Aba h0) hkl) ?_
  have hcb:Aaz AP0 Afz [w64 q,.int .u64 ((16*j / 16:Nat):Int)] (.agg ((ctrB q (BitVec.ofNat 64 j)).map g8)):=by
   have h1:=Alj q (BitVec.ofNat 64 j)
   have h2:(BitVec.ofNat 64 j).toNat=j:=by rw [BitVec.toNat_ofNat,Nat.mod_eq_of_lt (by omega)]
   rw [show w64 (BitVec.ofNat 64 j) = .int .u64 ((BitVec.ofNat 64 j).toNat:Int) from rfl,h2] at h1
   rw [show 16*j / 16=j by omega]
   exact h1
  refine Aal 2 rfl ?_;refine Aai rfl rfl (o_quon (b:=16) rfl rfl (by omega) (Adp (by omega))) ?_
  refine Aai rfl rfl (Ags rfl (AdR (by omega))) ?_
  refine AaS rfl rfl hcb rfl rfl rfl rfl rfl ?_
  refine AaS rfl (by simp only [AaC,by1,Bool.and_true];exact hkc) he (by rw [nrf]) rfl rfl rfl rfl ?_
  generalize hE:encP W (ctrB q (BitVec.ofNat 64 j))=E
  have hEl:E.length=16:=by rw [←hE];exact encP_len _ _
  refine Aai rfl rfl (o_alloc) ?_
  refine Aai rfl rfl (Abf rfl rfl (Aam Abc) (by simp) (by simp;omega) (AaF (fun _=>rfl) _)) ?_;refine AaQ ?_
  have hq:∃ p,S.length=p+2:=⟨S.length - 2,by have:=(List.getElem?_eq_some_iff.1 h1).1;omega⟩
  have hz:(zs .u8 16).length=16:=rfl
  obtain⟨p,hq⟩:=hq
  obtain⟨U,hU⟩:∃ U,S++[some ⟨16,[E.map g8]⟩]=U:=⟨_,rfl⟩
  have u0:=hU▸Aba (r:=[some ⟨16,[E.map g8]⟩]) h0
  have u1:=hU▸Aba (r:=[some ⟨16,[E.map g8]⟩]) h1
  have u2:U[S.length]?=some (some ⟨16,[E.map g8]⟩):=hU▸Abc
  simp only [AbC,hz,hU]
  rw [hq] at u2 ⊢
  clear hU h0 h1 hq S
  refine⟨rfl,?_⟩
  have hmin:min (16*j) s.length=16*j:=Nat.min_eq_left (by omega)
  rw [hmin] at u1
  refine Aab (Aad (Aaa 3 rfl ?_));refine Aae (Aax (b:=16) rfl rfl (by omega)) rfl rfl rfl rfl ?_
  refine Aaa 2 rfl ?_;refine Aae (o_minn rfl rfl) rfl rfl rfl rfl ?_
  refine Aae (AcI rfl u1 (by simp;omega) (.inr ⟨_,_,rfl,rfl⟩) (.inr ⟨_,_,rfl,rfl⟩) (by omega) (by simp;omega)) rfl rfl rfl rfl ?_
  obtain⟨n,hn,hn2,hn3⟩:∃ n,min (16*j+16) s.length - 16*j=n∧n≤16∧16*j+n=min (16*(j+1)) s.length:=⟨_,rfl,by omega,by omega⟩
  rw [hn]
  refine Aaa 2 rfl (Aac ?_)
  refine Aak (AaE (σ:=Nat) (fun i=>n - i) (fun i=>[(1,w64 q),(3,.ptr 0 0 0),(7,.view 1 0 s.length false),(8,n64 (16*j)),(9,.ptr (p+2) 0 0),(34,n64 n),(35,n64 i)])
   (fun i S=>i≤n∧S[0]?=some (some ⟨433,[keyC W]⟩)∧S[1]?=some (some ⟨1,(updA (turnC W q s) s (16*j+i)).map g8r⟩)∧S[p+2]?=some (some ⟨16,[E.map g8]⟩)) 0 (by (repeat' (first | exact Aan | refine Aah rfl ?_))) ⟨by omega,u0,u1,u2⟩ ?_)
  clear u0 u1 u2 U
  rintro i S ⟨hi,h0,h1,h2⟩
  refine Aab (Aad (Aaa 1 rfl (Aac (Aab ?_))))
  refine Aar rfl decide_eq_true_iff (fun h=>Aao ?_) (fun h=>AaA ?_)
  ·have hi':i<n:=by omega
   refine Aab ?_;refine Aak ?_;refine Aab (Aad (Aaa 2 rfl (Aac ?_)));refine AaH rfl ?_
   refine Aal 3 rfl ?_;refine Aai rfl rfl (Aax rfl rfl (by omega)) ?_;refine Aai rfl rfl (AaP rfl rfl (by omega) h1 rfl) ?_
   refine Aai rfl rfl (Aec 0 rfl h1 (by simp;omega) rfl) ?_;refine Aal 1 rfl ?_;refine Aai rfl rfl (Abx rfl rfl (by omega)) ?_
   refine Aai rfl rfl (Abr 0 rfl h2 (by omega)) ?_;refine Aai rfl rfl (Aas rfl rfl (AaW _ _)) ?_
   refine Aai rfl rfl (AaP rfl rfl (by omega) h1 rfl) ?_;refine Aai rfl rfl (Afs rfl rfl h1 (by simp;omega)) ?_;refine AaQ ?_
   refine⟨rfl,?_⟩;refine Aad ?_;refine Aae (Aax (b:=1) rfl rfl (by omega)) rfl rfl rfl rfl ?_;refine Aaa 1 rfl (Aac ?_)
   refine⟨i+1,by omega,by (repeat' (first | exact Aan | refine Aah rfl ?_)),by omega,Aay (by omega) h0,(Aam h1).trans ?_,Aay (by omega) h2⟩
   have ht:turnC W q s (16*j+i)=UInt8.ofBitVec ((s.getD (16*j+i) 0).toBitVec ^^^ (E.getD i 0).toBitVec):=by
    rw [turnC,show (16*j+i) / 16=j by omega,show (16*j+i)%16=i by omega,hE]
   rw [Ama (Nat.le_refl _) (by omega),←Nat.add_assoc,←updA_set (by omega),ht]
   try rfl
  ·have:i=n:=by omega
   subst this
   rw [hn3] at h1
   refine Aad (Aaa 1 rfl ?_);refine Aae (Aax (b:=16) rfl rfl (by omega)) rfl rfl rfl rfl ?_;refine Aaa 1 rfl ?_
   refine Aac ?_
   exact⟨j+1,by omega,by (repeat' (first | exact Aan | refine Aah rfl ?_)),by omega,h0,h1⟩
 ·have hj':s.length≤16*j:=by omega
  rw [Nat.min_eq_right hj',Amb rfl,ctrP_def] at h1
  refine Aab (Aad (Aaa 1 rfl ?_));refine Aae (AhV rfl h1 (by simp)) rfl rfl rfl rfl ?_;refine Aaa 1 rfl ?_
  refine Aac ?_;exact AaD (retd rfl ⟨_,AaJ rfl⟩)
end Go.Eng.Ses
namespace Go.Eng.Ses
open Go Go.Eng
variable [Inhabited GlobT]
attribute [local irreducible] OpR TL TD TC TS Aaz encP putB schP ctrP
theorem o_quou {AP:AaB} {m:FM} {S:Store} {slot:Nat} {x y:AOpd} {a b:Nat} {k:IntKind} (hx:lo m x=some (.int k (a:Int))) (hy:lo m y=some (.int k (b:Int))) (h:0<b) (hf:k.wrap ((a / b:Nat):Int)=((a / b:Nat):Int)):OpR AP m slot S (.bin .quo x y) (.int k ((a / b:Nat):Int)) S ([],[]) :=
 Aas hx hy (by
  simp only [abin,AcC,Bool.false_eq_true,if_false,if_true,aintop]
  rw [if_neg (by omega),show ((a:Int).tdiv b)=((a / b:Nat):Int) from rfl,hf])
theorem put_drop (n:BitVec 64) (i:Nat) (hi:i<8):[UInt8.ofNat (((n.toNat / 256^i%256:Nat):Int)).toNat]++(putB n 8).drop (8 - i)=(putB n 8).drop (8 - (i+1)):=by
 have hlen:8 - (i+1)<(putB n 8).length:=by rw [putB_len];omega
 rw [List.drop_eq_getElem_cons hlen,show 8 - (i+1)+1=8 - i by omega]
 show _::_=_
 congr 1
 simp only [putB,List.getElem_map,List.getElem_range,Int.toNat_natCast]
 rw [show 8 - 1 - (8 - (i+1))=i by omega]
 apply UInt8.toNat_inj.1
 show (UInt8.ofNat _).toNat=((n >>> (8*i)).setWidth 8).toNat
 rw [BitVec.toNat_setWidth,BitVec.toNat_ushiftRight,Nat.shiftRight_eq_div_pow,Nat.pow_mul]
 simp
theorem put1_ok (n:BitVec 64):Aaz AP0 Afh [w64 n,n64 8] (.str (putB n 8)):=by
 refine Aav (af:=c_r01_Put) rfl rfl ?_
 refine Aab (Aad (Aaa 1 rfl (Aac (Aab (Aad (Aaa 1 rfl ?_))))))
 refine Aac (Aab (Aab (Aad (Aaa 1 rfl (Aac ?_)))))
 refine Aak (AaE (σ:=Nat × Nat) (fun q=>8 - q.1) (fun q=>[(0,u64 q.2),(1,n64 8),(5,.str ((putB n 8).drop (8 - q.1))),(6,n64 q.1)])
  (fun q S=>q.1≤8∧q.2=n.toNat / 256^q.1∧S=[]) (0,n.toNat) (by dsimp only;rw [Nat.sub_zero,List.drop_of_length_le (by simp)];(repeat' (first | exact Aan | refine Aah rfl ?_))) ⟨by omega,by simp,rfl⟩ ?_)
 rintro⟨i,m⟩ S ⟨hi,hm,rfl⟩
 dsimp only at *
 refine Aab (Aab (Aad (Aaa 4 rfl ?_)))
 refine Aet 10 rfl decide_eq_true_iff (fun h=>?_) (fun h=>?_)
 ·have hi':i<8:=by omega
  refine Aaa 3 rfl (Aac ?_)
  refine Aar rfl decide_eq_true_iff (fun h=>Aao ?_) (fun h=>absurd (by omega) h)
  refine Aab ?_;refine Aak ?_;refine Aab (Aad (Aaa 1 rfl ?_))
  refine Aae (Acj (b:=256) rfl rfl (by omega)) rfl rfl rfl rfl ?_;refine Aae (Ags rfl (fits_u8 (by omega))) rfl rfl rfl rfl ?_
  refine Aae (AaU rfl rfl rfl) rfl rfl rfl rfl ?_;refine Aaa 1 rfl (Aaa 1 rfl ?_)
  refine Aae (AdD rfl rfl (by simp;omega)) rfl rfl rfl rfl ?_;refine Aaa 1 rfl (Aac (Aad (Aaa 1 rfl ?_)))
  have hmn:m≤n.toNat:=by rw [hm];exact Nat.div_le_self _ _
  have hnl:=n.isLt
  refine Aae (o_quou (a:=m) (b:=256) rfl rfl (by omega) (AdR (by omega))) rfl rfl rfl rfl ?_
  refine Aaa 1 rfl (Aac (Aad (Aaa 1 rfl ?_)))
  refine Aae (Aax (b:=1) rfl rfl (by omega)) rfl rfl rfl rfl ?_;refine Aaa 1 rfl (Aac ?_)
  refine⟨(i+1,m / 256),by dsimp only;omega,?_,by dsimp only;omega,?_,rfl⟩
  ·dsimp only
   rw [←put_drop n i hi',←hm]
   (repeat' (first | exact Aan | refine Aah rfl ?_))
  ·dsimp only
   rw [hm,Nat.div_div_eq_div_mul,Nat.pow_succ]
 ·have:i=8:=by omega
  subst this
  refine Aaa 3 rfl (Aac ?_);refine AaI (t:=false) rfl (fun h=>nomatch h) (fun _=>?_);refine AaA ?_;refine Aab ?_
  refine Aad (Aaa 2 rfl (Aac ?_));exact AaD (retd rfl ⟨_,AaJ rfl⟩)
theorem put1n (j:Nat) (h:j<18446744073709551616):Aaz AP0 Afh [.int .u64 (j:Int),n64 8] (.str (putB (BitVec.ofNat 64 j) 8)):=by
 have h1:=put1_ok (BitVec.ofNat 64 j)
 have h2:(BitVec.ofNat 64 j).toNat=j:=by rw [BitVec.toNat_ofNat,Nat.mod_eq_of_lt (by omega)]
 rw [show w64 (BitVec.ofNat 64 j) = .int .u64 ((BitVec.ofNat 64 j).toNat:Int) from rfl,h2] at h1
 exact h1
def strB (k:List UInt8) (q:BitVec 64) (i:Nat):UInt8:=(encP (schP k) (ctrB q (BitVec.ofNat 64 (i / 16)))).getD (i%16) 0
def strP (k:List UInt8) (q:BitVec 64) (n:Nat):List UInt8:=(List.range n).map (strB k q)
@[simp] theorem strP_len (k:List UInt8) (q:BitVec 64) (n:Nat):(strP k q n).length=n:=by simp [strP]
theorem strP_succ (k:List UInt8) (q:BitVec 64) (n:Nat):strP k q n++[strB k q n]=strP k q (n+1):=by simp [strP,List.range_succ]
set_option maxHeartbeats 2000000 in
theorem stream_ok (k:List UInt8) (q:BitVec 64) (n:Nat) (hk:k.length=16) (hn:n<4294967296):Aaz AP0 Alf [.str k,w64 q,n64 n] (.str (strP k q n)):=by
 have hw:=words_ok k hk
 have hby:=fun b hb=>by_ok k b hk hb
 have hbx:=box5_ok
 have c1:AaX (boxL.map fun b=>[g8 b])=true:=Abe (fun _=>rfl) _
 have c2:AaX ((List.range 44).map fun w=>(wordB k w).map g8)=true:=Abe (fun _=>AaL (fun _=>rfl) _) _
 have n1:Abn (boxL.map fun b=>[g8 b])=true:=Acl (fun _=>rfl) _
 have n2:Abn ((List.range 44).map fun w=>(wordB k w).map g8)=true:=Acl (fun _=>AbZ (fun _=>rfl) _) _
 generalize (boxL.map fun b=>[g8 b])=bx at *
 generalize ((List.range 44).map fun w=>(wordB k w).map g8)=ws at *
 refine Aav (af:=AgU) rfl rfl ?_
 refine Aab (Aad (Aaa 1 rfl (Aac (Aab (Aad (Aaa 1 rfl ?_))))))
 refine Aac (Aab (Aad ?_));refine Aap rfl rfl (hbx) rfl rfl rfl rfl rfl rfl ?_;refine Aaa 1 rfl (Aac ?_)
 refine Aab (Aad (Aaa 2 rfl ?_))
 refine Aap rfl (by simp only [AaC,AVal.closed,c1,Bool.and_self,Bool.true_and]) hw (by simp only [norefL,AVal.noref,n1,Bool.and_self,Bool.true_and,Bool.true_or]) rfl rfl rfl rfl rfl ?_
 refine Aaa 1 rfl (Aac (Aab (Aab (Aad (Aaa 1 rfl (Aac ?_))))))
 refine Aak (AaE (σ:=Nat) (fun j=>n+16 - 16*j) (fun j=>[(1,w64 q),(2,n64 n),(7,.str (strP k q (min (16*j) n))),(8,.imm bx),(9,.imm ws),(10,u64 j)])
  (fun j S=>16*j<n+16) 0 (by rw [Nat.mul_zero,Nat.zero_min];(repeat' (first | exact Aan | refine Aah rfl ?_))) (by omega) ?_)
 rintro j S hj
 refine Aab (Aab (Aad (Aaa 4 rfl (Aac ?_))))
 rw [strP_len]
 refine Aar rfl decide_eq_true_iff (fun h=>Aao ?_) (fun h=>AaA ?_)
 ·have hj':16*j<n:=by omega
  have hpj:=put1n j (by omega)
  have hst:strP k q (min (16*j) n)=strP k q (16*j):=by rw [Nat.min_eq_left (by omega)]
  rw [hst]
  refine Aab ?_;refine Aak ?_;refine Aab (Aad (Aaa 1 rfl ?_))
  refine Aap rfl rfl (put1_ok q) rfl rfl rfl rfl rfl rfl ?_;refine Aaa 1 rfl ?_;refine Aap rfl rfl (hpj) rfl rfl rfl rfl rfl rfl ?_
  refine Aae (AdD rfl rfl (by simp)) rfl rfl rfl rfl ?_;refine Aaa 1 rfl (Aac (Aab (Aad ?_)))
  refine Adh rfl rfl ?_;refine Aac (Aab (Aab (Aad (Aaa 1 rfl (Aac ?_)))))
  obtain⟨C,hC⟩:∃ C,ctrB q (BitVec.ofNat 64 j)=C:=⟨_,rfl⟩
  have hCl:C.length=16:=by rw [←hC];exact ctrB_len _ _
  rw [show putB q 8++putB (BitVec.ofNat 64 j) 8=C from hC]
  obtain⟨T,hT⟩:∃ T,S++[some ⟨16,[(fillA 0 (fun i=>C.getD i 0) 16 0).map g8]⟩]=T:=⟨_,rfl⟩
  have tp:T[S.length]?=some (some ⟨16,[(fillA 0 (fun i=>C.getD i 0) 16 0).map g8]⟩):=hT▸Abc
  show TC _ _ _ _ (S++[some ⟨16,[(fillA 0 (fun i=>C.getD i 0) 16 0).map g8]⟩]) _
  rw [hT]
  generalize S.length=p at tp ⊢
  clear hT S
  refine Aak (AaE (σ:=Nat) (fun i=>16 - i) (fun i=>[(1,w64 q),(2,n64 n),(7,.str (strP k q (16*j))),(8,.imm bx),(9,.imm ws),(10,u64 j),(11,.str C),(12,.ptr p 0 0),(13,n64 i)])
   (fun i S=>i≤16∧S[p]?=some (some ⟨16,[(fillA 0 (fun i=>C.getD i 0) 16 i).map g8]⟩)) 0 (by (repeat' (first | exact Aan | refine Aah rfl ?_))) ⟨by omega,tp⟩ ?_)
  clear tp T
  rintro i S ⟨hi,hp⟩
  refine Aab (Aab (Aad (Aaa 2 rfl (Aac ?_))))
  refine Aar rfl decide_eq_true_iff (fun h=>Aao ?_) (fun h=>AaA ?_)
  ·have hi':i<16:=by omega
   refine Aab (Aak ?_)
   refine Aad (Aaa 3 rfl ?_);refine Aae (Adt rfl rfl (by omega)) rfl rfl rfl rfl ?_
   refine Aae (Abx rfl rfl (by omega)) rfl rfl rfl rfl ?_;refine Aae (Abw rfl rfl hp (by simp;omega)) rfl rfl rfl rfl ?_;refine Aac ?_
   refine Aad (Aaa 1 rfl ?_);refine Aae (Aax (b:=1) rfl rfl (by omega)) rfl rfl rfl rfl ?_;refine Aaa 1 rfl ?_
   refine Aac ?_
   refine⟨i+1,by omega,by (repeat' (first | exact Aan | refine Aah rfl ?_)),by omega,(Aam hp).trans ?_⟩
   have hg:C.getD i 0=C[i]:=by rw [List.getD_eq_getElem?_getD,List.getElem?_eq_getElem (by omega)];rfl
   rw [←Abo hi',hg]
  ·have:i=16:=by omega
   subst this
   rw [Abu,Adn _ 16 hCl] at hp
   have hb:=hby C hCl
   have hE:∀ i,strB k q (16*j+i)=if i<16 then (encP (schP k) C).getD i 0 else strB k q (16*j+i):=fun i=>by
    split
    ·rename_i hi
     rw [strB,show (16*j+i) / 16=j by omega,show (16*j+i)%16=i by omega,hC]
    ·rfl
   have hEl:=encP_len (schP k) C
   generalize encP (schP k) C=E at hb hE hEl
   refine Aab (Aad (Aaa 2 rfl ?_));refine Aae (AbM rfl hp (by simp;omega)) rfl rfl rfl rfl ?_
   refine Aap rfl (by simp only [AaC,AVal.closed,c1,c2,Bool.and_self,Bool.true_and,Bool.and_true];exact AaL (fun _=>rfl) _) hb (by rw [nrf]) rfl rfl rfl rfl rfl ?_
   refine Adh (row:=zs .u8 16) (sz:=16) rfl rfl ?_
   refine Aae (Abf rfl rfl Abc rfl (by simpa using hEl) (AaF (fun _=>rfl) _)) rfl rfl rfl rfl ?_
   rw [AbC]
   obtain⟨T,hT⟩:∃ T,S++[some ⟨16,[E.map g8]⟩]=T:=⟨_,rfl⟩
   have tp:T[S.length]?=some (some ⟨16,[E.map g8]⟩):=hT▸Abc
   rw [hT]
   generalize S.length=p2 at tp ⊢
   clear hT hp S
   refine Aac (Aab (Aad (Aaa 1 rfl (Aac ?_))))
   refine Aak (AaE (σ:=Nat) (fun i=>16 - i) (fun i=>[(1,w64 q),(2,n64 n),(7,.str (strP k q (16*j+i))),(8,.imm bx),(9,.imm ws),(10,u64 j),(14,.ptr p2 0 0),(15,n64 i)])
    (fun i S=>i≤16∧16*j+i≤n∧S[p2]?=some (some ⟨16,[E.map g8]⟩)) 0 (by (repeat' (first | exact Aan | refine Aah rfl ?_))) ⟨by omega,by omega,tp⟩ ?_)
   clear tp T
   rintro i S ⟨hi,hin,hp⟩
   refine Aab (Aab (Aad (Aaa 3 rfl ?_)))
   refine Aet 46 rfl decide_eq_true_iff (fun h=>?_) (fun h=>?_)
   ·have hi':i<16:=by omega
    have hE:=hE i
    rw [if_pos hi'] at hE
    refine Aaa 5 rfl (Aac ?_)
    rw [strP_len]
    refine Aar rfl decide_eq_true_iff (fun h=>Aao ?_) (fun h=>AaA ?_)
    ·have hn':16*j+i<n:=by omega
     refine Aab ?_;refine Aak ?_;refine Aad (Aaa 2 rfl ?_);refine Aae (Abx rfl rfl (by omega)) rfl rfl rfl rfl ?_
     refine Aae (Abr 0 rfl hp (by omega)) rfl rfl rfl rfl ?_;refine Aae (AaU rfl rfl rfl) rfl rfl rfl rfl ?_
     refine Aae (o_text1 rfl) rfl rfl rfl rfl ?_;refine Aae (AdD rfl rfl (by simp;omega)) rfl rfl rfl rfl ?_;refine Aaa 1 rfl ?_
     refine Aac (Aad (Aaa 1 rfl ?_));refine Aae (Aax (b:=1) rfl rfl (by omega)) rfl rfl rfl rfl ?_
     refine Aaa 1 rfl (Aac ?_)
     refine⟨i+1,by omega,?_,by omega,by omega,hp⟩
     rw [show ({toBitVec:=(E.getD i 0).toBitVec}:UInt8)=strB k q (16*j+i) from hE.symm,strP_succ]
     (repeat' (first | exact Aan | refine Aah rfl ?_))
    ·have:16*j+i=min (16*(j+1)) n:=by omega
     rw [this]
     refine Aad (Aaa 1 rfl ?_);refine Aae (o_addu (b:=1) rfl rfl (AdR (by omega))) rfl rfl rfl rfl ?_;refine Aaa 1 rfl ?_
     refine Aac ?_
     exact⟨j+1,by omega,by (repeat' (first | exact Aan | refine Aah rfl ?_)),by omega⟩
   ·have:i=16:=by omega
    subst this
    have:16*j+16=min (16*(j+1)) n:=by omega
    rw [this]
    refine Aaa 5 rfl (Aac ?_);refine AaI (t:=false) rfl (fun h=>nomatch h) (fun _=>?_);refine AaA ?_;refine Aad ?_
    refine Aaa 1 rfl ?_;refine Aae (o_addu (b:=1) rfl rfl (AdR (by omega))) rfl rfl rfl rfl ?_;refine Aaa 1 rfl (Aac ?_)
    exact⟨j+1,by omega,by (repeat' (first | exact Aan | refine Aah rfl ?_)),by omega⟩
 ·have:n≤16*j:=by omega
  rw [Nat.min_eq_right this]
  refine Aab (Aad (Aaa 2 rfl (Aac ?_)));exact AaD (retd rfl ⟨_,AaJ rfl⟩)
theorem turn6_ok (k s:List UInt8) (q:BitVec 64) (hk:k.length=16) (hs:s.length<4294967296):Aaz AP0 f_r06_Turn [.str k,w64 q,.str s] (.str (ctrP (schP k) q s)):=by
 have hst:=stream_ok k q s.length hk hs
 have hcell:∀ i,turnC (schP k) q s i=UInt8.ofBitVec ((s.getD i 0).toBitVec ^^^ (strB k q i).toBitVec):=fun i=>rfl
 have hsl:=strP_len k q s.length
 have hsg:∀ i,i<s.length→(strP k q s.length).getD i 0=strB k q i:=fun i hi=>Abj hi
 have hdef:=ctrP_def (schP k) q s
 generalize strP k q s.length=X at hst hsl hsg
 refine Aav (af:=Aky) rfl rfl ?_
 refine Aab (Aad (Aaa 1 rfl (Aac (Aab (Aad (Aaa 4 rfl ?_))))))
 refine Aap rfl rfl (hst) rfl rfl rfl rfl rfl rfl ?_;refine Aaa 1 rfl (Aac (Aab (Aad ?_)))
 refine Aaa 2 rfl ?_;refine Abh (o_make rfl rfl (by omega) (by omega)) rfl rfl rfl rfl ?_;refine Aaa 1 rfl (Aac ?_)
 refine Aab (Aab (Aad (Aaa 1 rfl (Aac ?_))))
 refine Aak (AaE (σ:=Nat) (fun i=>s.length - i) (fun i=>[(2,.str s),(7,.str X),(8,.view 0 0 s.length true),(9,n64 i)])
  (fun i S=>i≤s.length∧S=[some ⟨1,(fillA 0 (turnC (schP k) q s) s.length i).map g8r⟩]) 0 (by (repeat' (first | exact Aan | refine Aah rfl ?_))) ⟨by omega,by rw [fillA_zero,List.map_replicate];rfl⟩ ?_)
 rintro i S ⟨hi,rfl⟩
 refine Aab (Aab (Aad (Aaa 4 rfl (Aac ?_))))
 refine Aar rfl decide_eq_true_iff (fun h=>Aao ?_) (fun h=>AaA ?_)
 ·have hi':i<s.length:=by omega
  have h1:=hcell i
  have h2:=hsg i hi'
  have e1:s.getD i 0=s[i]:=by rw [List.getD_eq_getElem?_getD,List.getElem?_eq_getElem hi'];rfl
  have e2:X.getD i 0=X[i]:=by rw [List.getD_eq_getElem?_getD,List.getElem?_eq_getElem (by omega)];rfl
  rw [←h2,e1,e2] at h1
  refine Aab ?_;refine Aak ?_;refine AaH rfl ?_;refine Aal 4 rfl ?_;refine Aai rfl rfl (Adt rfl rfl (by omega)) ?_
  refine Aal 2 rfl ?_;refine Aai rfl rfl (Adt rfl rfl (by omega)) ?_;refine Aai rfl rfl (Aas rfl rfl (AaW _ _)) ?_
  refine Aai rfl rfl (AaP rfl rfl (by omega) rfl rfl) ?_;refine Aai rfl rfl (Afs rfl rfl rfl (by simp;omega)) ?_;refine AaQ ?_
  refine⟨rfl,?_⟩;refine Aad (Aaa 1 rfl ?_);refine Aae (Aax (b:=1) rfl rfl (by omega)) rfl rfl rfl rfl ?_
  refine Aaa 1 rfl (Aac ?_)
  refine⟨i+1,by omega,by (repeat' (first | exact Aan | refine Aah rfl ?_)),by omega,?_⟩
  rw [←Abo hi',h1]
  rfl
 ·have:i=s.length:=by omega
  subst this
  rw [Abu,hdef]
  refine Aab (Aad (Aaa 1 rfl ?_));refine Aae (AhV rfl rfl (by simp)) rfl rfl rfl rfl ?_;refine Aaa 1 rfl ?_
  refine Aac ?_;exact AaD (retd rfl ⟨_,AaJ rfl⟩)
end Go.Eng.Ses
namespace Go.Eng.Ses
open Go Go.Eng
variable [Inhabited GlobT]
attribute [local irreducible] OpR TL TD TC TS Aaz encP putB schP ctrP deriveP hmacP
def sealC (W m:List UInt8):List AVal := .bool true::(keyC W++[.str m])
theorem Agf (W m:List UInt8) (hW:W.length=176):(sealC W m).length=435:=by simp [sealC,hW,AeD]
theorem AiS (W m:List UInt8):(sealC W m).all storable=true:=by
 rw [sealC,List.all_cons,List.all_append,Agv];rfl
theorem closedL_app:∀ (a b:List AVal),AaC (a++b)=(AaC a && AaC b)
 | [],b=>by simp [AaC]
 | x::a,b=>by simp [AaC,closedL_app a b,Bool.and_assoc]
theorem norefL_app:∀ (a b:List AVal),norefL (a++b)=(norefL a && norefL b)
 | [],b=>by simp [norefL]
 | x::a,b=>by simp [norefL,norefL_app a b,Bool.and_assoc]
theorem sealC_cl (W m:List UInt8):AaC (sealC W m)=true:=by
 rw [sealC,AaC,closedL_app,AjU];rfl
theorem keyC_nr' (W:List UInt8):norefL (keyC W)=true:=by
 have:=keyC_nr W
 rwa [norefL,AVal.noref,norefL,Bool.and_true] at this
theorem sealC_nr (W m:List UInt8):norefL (sealC W m)=true:=by
 rw [sealC,norefL,norefL_app,keyC_nr'];rfl
def zbox:List AVal:=[(.bool false),(.bool false)]++zs .u8 432++[(.str [])]
set_option maxRecDepth 10000 in
theorem zbox_len:zbox.length=435:=rfl
set_option maxRecDepth 10000 in
theorem seal_build (W m:List UInt8) (hW:W.length=176):fillN ([(.bool false),(.bool false)]++zs .u8 432++[(.str [])]) [((0,1),.bool true),((1,433),.agg (keyC W)),((434,1),.str m)]=some (sealC W m):=by
 rw [AlR]
 have hk:=AdP W hW
 have hs:=Agv W
 have hs':=hs
 obtain⟨Z,hZ,hZl⟩:∃ Z:List AVal,([(.bool false),(.bool false)]++zs .u8 432++[(.str [])]:List AVal)=[.bool false]++(Z++[.str []])∧Z.length=433:=⟨.bool false::zs .u8 432,rfl,rfl⟩
 rw [hZ]
 generalize hkc:keyC W=kc at hk hs
 have e2:List.drop 433 (Z++[AVal.str []])=[.str []]:=by rw [←hZl,List.drop_left]
 have e3:∀ x:List AVal,List.take 433 (kc++x)=kc:=fun x=>by rw [←hk,List.take_left]
 have e4:List.drop 434 (kc++[AVal.str []])=[]:=by rw [List.drop_eq_nil_iff];simp [hk]
 clear hZ hs' hW
 simp only [fillCells,AbA,Abp]
 rw [if_pos ⟨rfl,rfl,by simp⟩,if_pos ⟨trivial,hk,by simp [hZl]⟩]
 refine(if_pos ⟨rfl,rfl,by simp [hk,hZl]⟩).trans ?_
 unfold sealC
 rw [hkc]
 simp [e2,e3,e4]
end Go.Eng.Ses
namespace Go.Eng.Ses
open Go Go.Eng
variable [Inhabited GlobT]
attribute [local irreducible] OpR TL TD TC TS Aaz encP putB schP ctrP deriveP hmacP
abbrev encL:List UInt8:=[101,110,99]
abbrev macL:List UInt8:=[109,97,99]
def sealP (k:List UInt8):List AVal:=sealC (schP (deriveP k encL 16)) (deriveP k macL 32)
set_option maxRecDepth 10000 in
set_option maxHeartbeats 2000000 in
theorem seal_new_ok (k:List UInt8) (h0:k≠[]) (hk:k.length≤64):Aaz AP0 AjY [.str k] (.tuple [.agg (sealP k),n64 0]):=by
 have he:=derive_ok k encL 16 (by omega) (by omega) (by omega) (by decide)
 have hm:=derive_ok k macL 32 (by omega) (by omega) (by omega) (by decide)
 have hn:=new_ok (deriveP k encL 16) (Aif _ _ _ (by omega))
 have hW:=schP_len (deriveP k encL 16)
 unfold sealP
 generalize deriveP k encL 16=E at *
 generalize deriveP k macL 32=M at *
 generalize schP E=W at *
 have hb:=seal_build W M hW
 have hkl:=AdP W hW
 have hks:=Agv W
 have hkc:=AjU W
 have hbl:=Agf W M hW
 have hbs:=AiS W M
 have hbc:=sealC_cl W M
 generalize sealC W M=B at *
 generalize keyC W=K at *
 obtain⟨Z,hZ⟩:∃ Z,([(.bool false),(.bool false)]++zs .u8 432++[(.str [])]:List AVal)=Z:=⟨_,rfl⟩
 have hZl:Z.length=435:=by rw [←hZ];exact zbox_len
 obtain⟨Y,hY⟩:∃ Y,[AVal.bool false]++zs .u8 432=Y:=⟨_,rfl⟩
 have hYl:Y.length=433:=by rw [←hY];rfl
 refine Aav (af:=Aku) rfl rfl ?_
 refine Aab (Aad (AeT hZ hZl rfl ?_))
 refine Aaa 1 rfl (Aac (Aab (Aab (Aad (Aaa 3 rfl ?_)))))
 refine Aet 12 rfl beq_iff_eq (fun h=>absurd h h0) (fun h=>?_)
 refine Aaa 4 rfl (Aac ?_)
 refine Aar rfl decide_eq_true_iff (fun h=>absurd h (by omega)) (fun h=>Aao ?_)
 refine Aab (Aad (Aaa 1 rfl ?_));refine Aap rfl rfl (he) rfl rfl rfl rfl rfl rfl ?_;refine Aaa 5 rfl ?_
 refine Aac (Aab (Aad (Aaa 1 rfl ?_)));refine Aap rfl rfl (hm) rfl rfl rfl rfl rfl rfl ?_
 refine Aaa 5 rfl (Aac (Aab (Aad (Aaa 1 rfl ?_))))
 refine Aap rfl rfl (hn) rfl rfl rfl rfl rfl rfl ?_;refine Aae (Abd rfl) rfl rfl rfl rfl ?_
 refine Aae (Agr rfl rfl) rfl rfl rfl rfl ?_
 refine Aae (Agr rfl rfl) rfl rfl rfl rfl ?_
 refine AeT hY hYl rfl ?_
 refine Aae (Abf rfl rfl rfl hYl hkl hks) rfl rfl rfl rfl ?_
 refine Aaa 1 rfl (Aac (Aab (Aad ?_)))
 refine Aae (AbM rfl rfl hkl) rfl rfl rfl rfl ?_
 refine Aaa 1 rfl ?_
 refine Aae (Adl rfl hb) rfl rfl rfl rfl ?_
 refine Aae (Abf rfl rfl rfl hZl hbl hbs) rfl rfl rfl rfl ?_
 refine Aaa 1 rfl (Aac ?_)
 exact AaD (AiZ rfl rfl hbl hbc rfl rfl)
set_option maxRecDepth 10000 in
set_option maxHeartbeats 2000000 in
theorem AiR (W m:List UInt8) (hW:W.length=176):Aaz AP0 AdE [.agg (sealC W m)] (.agg (sealC W m)):=by
 have hkl:=Agf W m hW
 have hks:=AiS W m
 have hkc:=sealC_cl W m
 obtain⟨r,hr⟩:∃ r,sealC W m = .bool true::r:=⟨_,rfl⟩
 generalize sealC W m=kc at hr hkl hks hkc ⊢
 refine Aav (af:=AdF) rfl rfl ?_
 obtain⟨Z,hZ⟩:∃ Z,([(.bool false),(.bool false)]++zs .u8 432++[(.str [])]:List AVal)=Z:=⟨_,rfl⟩
 have hZl:Z.length=435:=by rw [←hZ];exact zbox_len
 refine Aab (Aad ?_)
 refine Abh (Afa rfl hkl) rfl rfl rfl rfl ?_
 refine AeT hZ hZl rfl ?_
 subst hr
 refine Aac (Aab (Aab (Aad (Aaa 3 rfl (Aac ?_)))))
 refine AaI (t:=false) rfl (fun h=>nomatch h) (fun _=>?_);refine Aao (Aab (Aad ?_))
 refine Aae (AbM rfl rfl hkl) rfl rfl rfl rfl ?_
 refine Aae (Abf rfl rfl rfl hZl hkl hks) rfl rfl rfl rfl ?_
 refine Aac (AaD (AcO rfl rfl hkl hkc))
theorem head_ok (a b:BitVec 64):Aaz AP0 Aib [w64 a,w64 b] (.str (putB a 8++putB b 8)):=by
 refine Aav (af:=Aiw) rfl rfl ?_
 refine Aab (Aad (Aaa 1 rfl (Aac (Aab (Aad (Aaa 1 rfl ?_))))))
 refine Aap rfl rfl (AkV _ 8 (by omega)) rfl rfl rfl rfl rfl rfl ?_;refine Aaa 1 rfl ?_
 refine Aap rfl rfl (AkV _ 8 (by omega)) rfl rfl rfl rfl rfl rfl ?_;refine Aae (AdD rfl rfl (by simp)) rfl rfl rfl rfl ?_
 refine Aaa 1 rfl (Aac ?_);exact AaD (retd rfl ⟨_,AaJ rfl⟩)
theorem headR_ok (a b:BitVec 64):Aaz AP0 Aka [w64 a,w64 b] (.str (putB a 8++putB b 8)):=by
 refine Aav (af:=Akx) rfl rfl ?_
 refine Aab (Aad (Aaa 1 rfl (Aac (Aab (Aad (Aaa 1 rfl ?_))))))
 refine Aap rfl rfl (put1_ok _) rfl rfl rfl rfl rfl rfl ?_;refine Aaa 1 rfl ?_;refine Aap rfl rfl (put1_ok _) rfl rfl rfl rfl rfl rfl ?_
 refine Aae (AdD rfl rfl (by simp)) rfl rfl rfl rfl ?_;refine Aaa 1 rfl (Aac ?_);exact AaD (retd rfl ⟨_,AaJ rfl⟩)
def tagP (m:List UInt8) (a b:BitVec 64) (c:List UInt8):List UInt8:=(hmacP m (putB a 8++putB b 8++c)).take 16
theorem tagP_len (m:List UInt8) (a b:BitVec 64) (c:List UInt8):(tagP m a b c).length=16:=by simp [tagP,Afb]
theorem tag_ok (W m c:List UInt8) (a b:BitVec 64) (hW:W.length=176) (hm:m.length=32) (hc:c.length≤999000):Aaz AP0 AeL [.agg (sealC W m),w64 a,w64 b,.str c] (.str (tagP m a b c)):=by
 have hkl:=Agf W m hW
 have hks:=AiS W m
 have hget:(sealC W m)[434]?=some (.str m):=by
  have e:sealC W m=(.bool true::keyC W)++[.str m]:=rfl
  rw [e,List.getElem?_append_right (by rw [List.length_cons,AdP W hW];omega)]
  rw [List.length_cons,AdP W hW];rfl
 generalize sealC W m=kc at *
 have hh:=hmac_ok m [putB a 8++putB b 8,c] (by omega) (by simp) (by simp;omega)
 have ht:tagP m a b c=(hmacP m ([putB a 8++putB b 8,c].flatten)).take 16:=by simp [tagP]
 have htl:=Afb m ([putB a 8++putB b 8,c].flatten)
 rw [ht]
 generalize hmacP m ([putB a 8++putB b 8,c].flatten)=H at *
 refine Aav (af:=AeP) rfl rfl ?_
 refine Aab (Aad ?_)
 refine Abh (Afa rfl hkl) rfl rfl rfl rfl ?_
 refine Aaa 1 rfl (Aac (Aab ?_));refine Aeu ?_;refine Aes rfl ?_;refine Aal 1 rfl ?_
 refine Aai rfl rfl (AaG rfl rfl (r:=kc) rfl (by omega) (v := .str m) (by simp only [Acg,Bool.false_eq_true,if_false,List.head?_drop,Nat.zero_add];exact hget)) ?_
 refine Aal 2 rfl ?_;refine AaS rfl rfl (head_ok a b) rfl rfl rfl rfl rfl ?_;refine Aal 1 rfl ?_
 refine Aai rfl rfl (AaU rfl rfl rfl) ?_;refine AaQ ?_;refine⟨rfl,?_⟩;refine AcF ?_
 refine AiM rfl (Aeh (fun n=>⟨_,AaJ rfl⟩) (Aeh (fun n=>⟨_,AjW rfl⟩) Ajn)) (hh) rfl rfl rfl rfl rfl rfl ?_
 refine Aac ?_;refine AcF ?_;refine Aae (Aft rfl rfl (by simp;omega)) rfl rfl rfl rfl ?_;refine Aac ?_;refine AcF ?_
 refine Aaa 1 rfl (Aac ?_);refine AkO ?_;exact AaD (retd rfl ⟨_,AaJ rfl⟩)
end Go.Eng.Ses
namespace Go.Eng.Ses
open Go Go.Eng
variable [Inhabited GlobT]
attribute [local irreducible] OpR TL TD TC TS Aaz encP putB schP ctrP deriveP hmacP tagP
theorem seal_key (W m:List UInt8) (hW:W.length=176):((sealC W m).drop 1).take 433=keyC W:=by
 have e:sealC W m = .bool true::(keyC W++[.str m]):=rfl
 rw [e,List.drop_succ_cons,List.drop_zero,←AdP W hW,List.take_left]
def sealT (W m:List UInt8) (a b:BitVec 64) (s:List UInt8):List UInt8:=ctrP W b s++tagP m a b (ctrP W b s)
theorem sealA_nr (W m:List UInt8):(AVal.agg (sealC W m)).noref=true:=by rw [AVal.noref];exact sealC_nr W m
theorem sealA_cl (W m:List UInt8):(AVal.agg (sealC W m)).closed=true:=by rw [AVal.closed];exact sealC_cl W m
theorem keyA_nr (W:List UInt8):(AVal.agg (keyC W)).noref=true:=by rw [AVal.noref];exact keyC_nr' W
theorem keyA_cl (W:List UInt8):(AVal.agg (keyC W)).closed=true:=by rw [AVal.closed];exact AjU W
theorem o_loadPart {AP:AaB} {m:FM} {S:Store} {slot w b f k sz':Nat} {a:AOpd} {r:List AVal} (h:lo m a=some (.ptr b 0 f)) (hf:f=k) (h1:S[b]?=some (some ⟨sz',[r]⟩)) (h2:k+w≤r.length):OpR AP m slot S (.load true w a) (.agg ((r.drop k).take w)) S ([b],[]):=by
 subst hf
 exact AaG h h1 (r:=r) rfl h2 (by
  simp only [Acg,if_true]
  rw [if_pos (by simp;omega)])
theorem seal_ok (W m s:List UInt8) (a b:BitVec 64) (hW:W.length=176) (hm:m.length=32) (hs:s.length≤999000):Aaz AP0 Agz [.agg (sealC W m),w64 a,w64 b,.str s] (.str (sealT W m a b s)):=by
 have hkl:=Agf W m hW
 have hks:=AiS W m
 have hw:=AiR W m hW
 have ht:=tag_ok W m (ctrP W b s) a b hW hm (by rw [ctrP_len];exact hs)
 have hc:=Air W s b hW (by omega)
 have hk:=seal_key W m hW
 have hcl:=sealA_cl W m
 have hnr:=sealA_nr W m
 have kcl:=keyA_cl W
 have knr:=keyA_nr W
 have hT:sealT W m a b s=ctrP W b s++tagP m a b (ctrP W b s):=rfl
 rw [hT]
 have hCl:=ctrP_len W b s
 have hGl:=tagP_len m a b (ctrP W b s)
 generalize sealC W m=B at *
 generalize keyC W=K at *
 generalize ctrP W b s=C at *
 generalize tagP m a b C=G at *
 refine Aav (af:=Aej) rfl rfl ?_
 refine Aab (Aad ?_)
 refine Abh (Afa rfl hkl) rfl rfl rfl rfl ?_
 refine Aaa 1 rfl (Aac (Aab (Aad ?_)))
 refine Aae (AbM rfl rfl hkl) rfl rfl rfl rfl ?_
 refine Aap rfl (by simp only [AaC,hcl,Bool.and_self]) hw (by simp only [norefL,hnr,Bool.and_self,Bool.true_or]) rfl rfl rfl rfl rfl ?_
 refine Aae (Abf rfl rfl rfl hkl hkl hks) rfl rfl rfl rfl ?_
 refine Aac (Aab (Aad (Aaa 1 rfl ?_)))
 refine Aae (o_loadPart rfl rfl rfl (by omega)) rfl rfl rfl rfl ?_
 rw [hk]
 refine Aaa 2 rfl ?_
 refine Aap rfl (by simp only [AaC,kcl,Bool.true_and];rfl) hc (by simp only [norefL,knr,Bool.true_and,Bool.true_or];rfl) rfl rfl rfl rfl rfl ?_
 refine Aaa 1 rfl (Aac (Aab (Aad (Aaa 1 rfl ?_))))
 refine Aae (AbM rfl rfl hkl) rfl rfl rfl rfl ?_
 refine Aaa 3 rfl ?_
 refine Aap rfl (by simp only [AaC,hcl,Bool.true_and];rfl) ht (by simp only [norefL,hnr,Bool.true_and,Bool.true_or];rfl) rfl rfl rfl rfl rfl ?_
 refine Aae (AdD rfl rfl (by omega)) rfl rfl rfl rfl ?_;refine Aaa 1 rfl (Aac ?_);exact AaD (retd rfl ⟨_,AaJ rfl⟩)
def openT (W m:List UInt8) (a b:BitVec 64) (t:List UInt8):List UInt8 × Nat :=
 if t.length<16 then ([],3) else
 let c:=t.take (t.length - 16)
 if tagP m a b c=t.drop (t.length - 16) then (ctrP W b c,0) else ([],8)
theorem open_ok (W m t:List UInt8) (a b:BitVec 64) (hW:W.length=176) (hm:m.length=32) (hs:t.length≤999000):Aaz AP0 AgA [.agg (sealC W m),w64 a,w64 b,.str t] (.tuple [.str (openT W m a b t).1,n64 (openT W m a b t).2]):=by
 have hkl:=Agf W m hW
 have hks:=AiS W m
 have hw:=AiR W m hW
 have ht:=tag_ok W m (t.take (t.length - 16)) a b hW hm (by simp;omega)
 have hc:=Air W (t.take (t.length - 16)) b hW (by simp;omega)
 have hk:=seal_key W m hW
 have hcl:=sealA_cl W m
 have hnr:=sealA_nr W m
 have kcl:=keyA_cl W
 have knr:=keyA_nr W
 have hgl:=tagP_len m a b (t.take (t.length - 16))
 have hsm:=same_ok (tagP m a b (t.take (t.length - 16))) (t.drop (t.length - 16)) (by omega)
 have hT:openT W m a b t=if t.length<16 then ([],3) else if tagP m a b (t.take (t.length - 16))=t.drop (t.length - 16) then (ctrP W b (t.take (t.length - 16)),0) else ([],8):=rfl
 generalize openT W m a b t=R at *
 generalize sealC W m=B at *
 generalize keyC W=K at *
 generalize ctrP W b (t.take (t.length - 16))=C at *
 refine Aav (af:=Aek) rfl rfl ?_
 refine Aab (Aad ?_)
 refine Abh (Afa rfl hkl) rfl rfl rfl rfl ?_
 refine Aaa 2 rfl (Aac (Aab (Aab (Aad (Aaa 3 rfl (Aac ?_))))))
 refine Aar rfl decide_eq_true_iff (fun h=>?_) (fun h=>Aao ?_)
 ·rw [if_pos (by omega)] at hT
  subst hT
  refine Aab (Aad (Aaa 2 rfl (Aac ?_)));exact AaD (retd rfl ⟨_,AaJ rfl⟩)
 ·rw [if_neg (by omega)] at hT
  refine Aab (Aad ?_)
  refine Aae (AbM rfl rfl hkl) rfl rfl rfl rfl ?_
  refine Aap rfl (by simp only [AaC,hcl,Bool.and_self]) hw (by simp only [norefL,hnr,Bool.and_self,Bool.true_or]) rfl rfl rfl rfl rfl ?_
  refine Aae (Abf rfl rfl rfl hkl hkl hks) rfl rfl rfl rfl ?_
  have hcl2:(t.take (t.length - 16)).length=t.length - 16:=by simp
  refine Aac (Aab (Aad (Aaa 3 rfl ?_)))
  refine Aae (AbQ (b:=16) rfl rfl (by omega) (by omega)) rfl rfl rfl rfl ?_;refine Aae (Aft rfl rfl (by omega)) rfl rfl rfl rfl ?_
  refine Aaa 1 rfl (Aac (Aab (Aab ?_)));refine Aeu ?_;refine Aes rfl ?_
  refine Aai rfl rfl (AbM rfl rfl hkl) ?_
  refine Aal 3 rfl ?_
  refine AaS rfl (by simp only [AaC,hcl,Bool.true_and];rfl) ht (by simp only [norefL,hnr,Bool.true_and,Bool.true_or];rfl) rfl rfl rfl rfl ?_
  refine Aal 3 rfl ?_;refine Aai rfl rfl (o_sliceL rfl rfl (by omega)) ?_;refine AaQ ?_;refine⟨rfl,?_⟩;refine AcF ?_
  rw [hcl2]
  refine Aap rfl rfl (hsm) rfl rfl rfl rfl rfl rfl ?_;refine Aac ?_;refine AcF ?_;refine Aaa 1 rfl (Aac ?_);refine AkO ?_
  by_cases hg:tagP m a b (t.take (t.length - 16))=t.drop (t.length - 16)
  ·rw [if_pos hg] at hT
   subst hT
   rw [show (tagP m a b (t.take (t.length - 16)) == t.drop (t.length - 16))=true from beq_iff_eq.2 hg]
   refine AaI rfl (fun h=>nomatch h) (fun _=>Aao ?_)
   refine Aab (Aad (Aaa 1 rfl ?_))
   refine Aae (o_loadPart rfl rfl rfl (by omega)) rfl rfl rfl rfl ?_
   rw [hk]
   refine Aaa 2 rfl ?_
   refine Aap rfl (by simp only [AaC,kcl,Bool.true_and];rfl) hc (by simp only [norefL,knr,Bool.true_and,Bool.true_or];rfl) rfl rfl rfl rfl rfl ?_
   refine Aaa 2 rfl (Aac ?_);exact AaD (retd rfl ⟨_,AaJ rfl⟩)
  ·rw [if_neg hg] at hT
   subst hT
   rw [show (tagP m a b (t.take (t.length - 16)) == t.drop (t.length - 16))=false from beq_eq_false_iff_ne.2 hg]
   refine AaI (t:=true) rfl (fun _=>?_) (fun h=>nomatch h);refine Aab (Aad (Aaa 2 rfl (Aac ?_)))
   exact AaD (retd rfl ⟨_,AaJ rfl⟩)
end Go.Eng.Ses
namespace Go.Eng.Ses
open Go Go.Eng
variable [Inhabited GlobT]
attribute [local irreducible] OpR TL TD TC TS Aaz encP putB schP ctrP deriveP hmacP tagP
abbrev encK (k:List UInt8):List UInt8:=schP (deriveP k encL 16)
abbrev macK (k:List UInt8):List UInt8:=deriveP k macL 32
theorem sealR_ok (k s:List UInt8) (a b:BitVec 64) (hk:k.length≤64) (hs:s.length≤800000):Aaz AP0 f_r07_Seal [.str k,w64 a,w64 b,.str s] (.str (sealT (encK k) (macK k) a b s)):=by
 have he:=deriveR_ok k encL 16 (by omega) (by omega) (by omega) (by decide)
 have hm:=deriveR_ok k macL 32 (by omega) (by omega) (by omega) (by decide)
 have hc:=turn6_ok (deriveP k encL 16) s b (Aif _ _ _ (by omega)) (by omega)
 have hml:=Aif k macL 32 (by omega)
 have hT:sealT (encK k) (macK k) a b s=ctrP (encK k) b s++tagP (macK k) a b (ctrP (encK k) b s):=rfl
 rw [hT]
 have hCl:=ctrP_len (encK k) b s
 have hh:=headR_ok a b
 unfold encK macK at *
 generalize deriveP k macL 32=M at *
 generalize deriveP k encL 16=E at *
 generalize ctrP (schP E) b s=C at *
 have hsu:=sumR_ok M (putB a 8++putB b 8++C) (by omega) (by simp;omega)
 have ht:(hmacP M (putB a 8++putB b 8++C)).take 16=tagP M a b C:=by unfold tagP;rfl
 have hhl:=Afb M (putB a 8++putB b 8++C)
 rw [←ht]
 generalize hmacP M (putB a 8++putB b 8++C)=H at *
 refine Aav (af:=Akw) rfl rfl ?_
 refine Aab (Aad (Aaa 1 rfl (Aac (Aab (Aad (Aaa 1 rfl ?_))))))
 refine Aap rfl rfl (he) rfl rfl rfl rfl rfl rfl ?_;refine Aaa 2 rfl ?_;refine Aap rfl rfl (hc) rfl rfl rfl rfl rfl rfl ?_
 refine Aaa 1 rfl (Aac (Aab (Aad (Aaa 2 rfl ?_))))
 refine Aap rfl rfl (hm) rfl rfl rfl rfl rfl rfl ?_;refine Aaa 2 rfl ?_;refine Aap rfl rfl (hh) rfl rfl rfl rfl rfl rfl ?_
 refine Aaa 1 rfl ?_;refine Aae (AdD rfl rfl (by simp;omega)) rfl rfl rfl rfl ?_;refine Aap rfl rfl (hsu) rfl rfl rfl rfl rfl rfl ?_
 refine Aae (Aft rfl rfl (by simp;omega)) rfl rfl rfl rfl ?_;refine Aae (AdD rfl rfl (by simp;omega)) rfl rfl rfl rfl ?_
 refine Aaa 1 rfl (Aac ?_);exact AaD (retd rfl ⟨_,AaJ rfl⟩)
end Go.Eng.Ses
namespace Go.Eng.Ses
open Go Go.Eng
variable [Inhabited GlobT]
def u64?:AVal→Option (BitVec 64)
 | .int .u64 n=>if 0≤n∧n<18446744073709551616 then some (BitVec.ofNat 64 n.toNat) else none
 | _=>none
theorem u64?_spec {v:AVal} {x:BitVec 64} (h:u64? v=some x):v=w64 x:=by
 unfold u64? at h
 split at h
 ·rename_i n
  split at h
  ·rename_i hn
   cases h
   have:((BitVec.ofNat 64 n.toNat).toNat:Int)=n:=by
    rw [BitVec.toNat_ofNat,Nat.mod_eq_of_lt (by omega)];omega
   show AVal.int .u64 n = .int .u64 _
   rw [this]
  ·cases h
 ·cases h
def bytes?:List AVal→Option (List UInt8)
 | []=>some []
 | .int .u8 n::r=>if 0≤n∧n<256 then (bytes? r).map (UInt8.ofNat n.toNat::·) else none
 | _=>none
theorem bytes?_spec:∀ {l:List AVal} {bs:List UInt8},bytes? l=some bs→l=bs.map g8
 | [],bs,h=>by simp only [bytes?] at h;cases h;rfl
 | v::r,bs,h=>by
   unfold bytes? at h
   split at h
   ·rename_i he;cases he
   ·rename_i n r' he
    cases he
    split at h
    ·rename_i hn
     cases hr:bytes? r with
     | none=>rw [hr] at h;cases h
     | some b =>
       rw [hr] at h
       cases h
       have:((UInt8.ofNat n.toNat).toNat:Int)=n:=by
        rw [show (UInt8.ofNat n.toNat).toNat=n.toNat%256 from UInt8.toNat_ofNat',Nat.mod_eq_of_lt (by omega)];omega
       rw [bytes?_spec hr,List.map_cons]
       show AVal.int .u8 n::_ = .int .u8 _::_
       rw [this]
    ·cases h
   ·cases h
def key?:List AVal→Option (List UInt8)
 | .bool true::r=>match bytes? r with
   | some bs=>if bs.length=432∧bs.drop 176=boxL then some (bs.take 176) else none
   | none=>none
 | _=>none
theorem key?_spec {l:List AVal} {W:List UInt8} (h:key? l=some W):l=keyC W∧W.length=176:=by
 unfold key? at h
 split at h
 ·rename_i r
  split at h
  ·rename_i bs hb
   split at h
   ·rename_i hc
    cases h
    refine⟨?_,by simp [hc.1]⟩
    rw [keyC,←hc.2,List.take_append_drop,bytes?_spec hb]
   ·cases h
  ·cases h
 ·cases h
def box?:List AVal→Option (List UInt8 × List UInt8)
 | .bool true::r=>match key? (r.take 433),r.drop 433 with
   | some W,[.str m]=>if m.length=32 then some (W,m) else none
   | _,_=>none
 | _=>none
theorem box?_spec {l:List AVal} {W m:List UInt8} (h:box? l=some (W,m)):l=sealC W m∧W.length=176∧m.length=32:=by
 unfold box? at h
 split at h
 ·rename_i r
  split at h
  ·rename_i W' m' h1 h2
   split at h
   ·rename_i hm
    cases h
    obtain⟨k1,k2⟩:=key?_spec h1
    refine⟨?_,k2,hm⟩
    rw [sealC,←k1,←h2,List.take_append_drop]
   ·cases h
  ·cases h
 ·cases h
def strs?:List (List AVal)→Option (List (List UInt8))
 | []=>some []
 | [.str s]::r=>(strs? r).map (s::·)
 | _=>none
theorem strs?_spec:∀ {l:List (List AVal)} {ss:List (List UInt8)},strs? l=some ss→l=ss.map fun s=>[.str s]
 | [],ss,h=>by simp only [strs?] at h;cases h;rfl
 | v::r,ss,h=>by
   unfold strs? at h
   split at h
   ·rename_i he;cases he
   ·rename_i s r' he
    cases he
    cases hr:strs? r with
    | none=>rw [hr] at h;cases h
    | some b =>
      rw [hr] at h
      cases h
      rw [strs?_spec hr,List.map_cons]
   ·cases h
def headG:List AVal→Option AVal
 | [a,b]=>match u64? a,u64? b with
   | some x,some y=>some (.str (putB x 8++putB y 8))
   | _,_=>none
 | _=>none
def newG:List AVal→Option AVal
 | [.str k]=>if k≠[]∧k.length≤64 then some (.tuple [.agg (sealP k),n64 0]) else none
 | _=>none
def sealRG:List AVal→Option AVal
 | [.str k,a,b,.str s]=>match u64? a,u64? b with
   | some x,some y=>if k.length≤64∧s.length≤800000 then some (.str (sealT (encK k) (macK k) x y s)) else none
   | _,_=>none
 | _=>none
def sealG:List AVal→Option AVal
 | [.agg B,a,b,.str s]=>match box? B,u64? a,u64? b with
   | some (W,m),some x,some y=>if s.length≤999000 then some (.str (sealT W m x y s)) else none
   | _,_,_=>none
 | _=>none
def openG:List AVal→Option AVal
 | [.agg B,a,b,.str s]=>match box? B,u64? a,u64? b with
   | some (W,m),some x,some y=>if s.length≤999000 then some (match openT W m x y s with | (p,e) => .tuple [.str p,n64 e]) else none
   | _,_,_=>none
 | _=>none
def akeyG:List AVal→Option AVal
 | [.str k]=>if k.length=16 then some (.tuple [.agg (keyC (schP k)),n64 0]) else none
 | _=>none
def turnG:List AVal→Option AVal
 | [.agg K,a,.str s]=>match key? K,u64? a with
   | some W,some x=>if s.length<4294967296 then some (.str (ctrP W x s)) else none
   | _,_=>none
 | _=>none
def encG:List AVal→Option AVal
 | [.agg K,.agg b]=>match key? K,bytes? b with
   | some W,some bs=>if bs.length=16 then some (.agg ((encP W bs).map g8)) else none
   | _,_=>none
 | _=>none
def blockG:List AVal→Option AVal
 | [a,b]=>match u64? a,u64? b with
   | some x,some y=>some (.agg ((ctrB x y).map g8))
   | _,_=>none
 | _=>none
def hmacG:List AVal→Option AVal
 | [.str k,.imm rows]=>match strs? rows with
   | some ss=>if k.length≤1000000∧ss.length≤1000000∧ss.flatten.length≤999900 then some (.str (hmacP k ss.flatten)) else none
   | none=>none
 | _=>none
def textG:List AVal→Option AVal
 | [.imm rows]=>match strs? rows with
   | some ss=>if ss.length≤1000000∧ss.flatten.length≤1000000 then some (.str (shaP ss.flatten)) else none
   | none=>none
 | _=>none
theorem headG_ok (args:List AVal) (r:AVal) (h:headG args=some r):Aaz AP0 Aib args r:=by
 unfold headG at h
 split at h
 ·split at h
  ·rename_i h1 h2
   cases h
   rw [u64?_spec h1,u64?_spec h2]
   exact head_ok _ _
  ·cases h
 ·cases h
theorem headRG_ok (args:List AVal) (r:AVal) (h:headG args=some r):Aaz AP0 Aka args r:=by
 unfold headG at h
 split at h
 ·split at h
  ·rename_i h1 h2
   cases h
   rw [u64?_spec h1,u64?_spec h2]
   exact headR_ok _ _
  ·cases h
 ·cases h
theorem newG_ok (args:List AVal) (r:AVal) (h:newG args=some r):Aaz AP0 AjY args r:=by
 unfold newG at h
 split at h
 ·split at h
  ·rename_i hc
   cases h
   exact seal_new_ok _ hc.1 hc.2
  ·cases h
 ·cases h
theorem sealRG_ok (args:List AVal) (r:AVal) (h:sealRG args=some r):Aaz AP0 f_r07_Seal args r:=by
 unfold sealRG at h
 split at h
 ·split at h
  ·rename_i h1 h2
   split at h
   ·rename_i hc
    cases h
    rw [u64?_spec h1,u64?_spec h2]
    exact sealR_ok _ _ _ _ hc.1 hc.2
   ·cases h
  ·cases h
 ·cases h
theorem sealG_ok (args:List AVal) (r:AVal) (h:sealG args=some r):Aaz AP0 Agz args r:=by
 unfold sealG at h
 split at h
 ·split at h
  ·rename_i h0 h1 h2
   split at h
   ·rename_i hc
    cases h
    obtain⟨k1,k2,k3⟩:=box?_spec h0
    rw [k1,u64?_spec h1,u64?_spec h2]
    exact seal_ok _ _ _ _ _ k2 k3 hc
   ·cases h
  ·cases h
 ·cases h
theorem openG_ok (args:List AVal) (r:AVal) (h:openG args=some r):Aaz AP0 AgA args r:=by
 unfold openG at h
 split at h
 ·split at h
  ·rename_i h0 h1 h2
   split at h
   ·rename_i hc
    cases h
    obtain⟨k1,k2,k3⟩:=box?_spec h0
    rw [k1,u64?_spec h1,u64?_spec h2]
    exact open_ok _ _ _ _ _ k2 k3 hc
   ·cases h
  ·cases h
 ·cases h
theorem akeyG_ok (args:List AVal) (r:AVal) (h:akeyG args=some r):Aaz AP0 Ajt args r:=by
 unfold akeyG at h
 split at h
 ·split at h
  ·rename_i hc
   cases h
   exact new_ok _ hc
  ·cases h
 ·cases h
theorem turnG_ok (args:List AVal) (r:AVal) (h:turnG args=some r):Aaz AP0 Ahr args r:=by
 unfold turnG at h
 split at h
 ·split at h
  ·rename_i h0 h1
   split at h
   ·rename_i hc
    cases h
    obtain⟨k1,k2⟩:=key?_spec h0
    rw [k1,u64?_spec h1]
    exact Air _ _ _ k2 hc
   ·cases h
  ·cases h
 ·cases h
theorem encG_ok (args:List AVal) (r:AVal) (h:encG args=some r):Aaz AP0 Add args r:=by
 unfold encG at h
 split at h
 ·split at h
  ·rename_i h0 h1
   split at h
   ·rename_i hc
    cases h
    obtain⟨k1,k2⟩:=key?_spec h0
    rw [k1,bytes?_spec h1]
    exact enc_ok _ _ k2 hc
   ·cases h
  ·cases h
 ·cases h
theorem blockG_ok (args:List AVal) (r:AVal) (h:blockG args=some r):Aaz AP0 Afz args r:=by
 unfold blockG at h
 split at h
 ·split at h
  ·rename_i h1 h2
   cases h
   rw [u64?_spec h1,u64?_spec h2]
   exact Alj _ _
  ·cases h
 ·cases h
theorem hmacG_ok (args:List AVal) (r:AVal) (h:hmacG args=some r):Aaz AP0 Ahq args r:=by
 unfold hmacG at h
 split at h
 ·split at h
  ·rename_i h1
   split at h
   ·rename_i hc
    cases h
    rw [strs?_spec h1]
    exact hmac_ok _ _ hc.1 hc.2.1 hc.2.2
   ·cases h
  ·cases h
 ·cases h
theorem textG_ok (args:List AVal) (r:AVal) (h:textG args=some r):Aaz AP0 Afg args r:=by
 unfold textG at h
 split at h
 ·split at h
  ·rename_i h1
   split at h
   ·rename_i hc
    cases h
    rw [strs?_spec h1]
    exact text_ok _ hc.1 hc.2
   ·cases h
  ·cases h
 ·cases h
end Go.Eng.Ses
