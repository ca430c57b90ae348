/- The sealed boxes are proved; no condition. -/
import Derived.Test.YtjolcimbcbcahaaGreatDoorC3
import Derived.Test.YtjolcimbcbcahaaGreatDoorE5
set_option linter.unusedSectionVars false
set_option linter.unusedVariables false
set_option linter.unusedSimpArgs false
set_option linter.unnecessarySimpa false
namespace Go.Eng.Ses
open Go Go.Eng
variable [Inhabited GlobT]
theorem AzK (W b:List UInt8):(encP W b).length=16:=Aqx W b 10
attribute [local irreducible] OpR TL TD TC TS Ak encP Bd Bz
section
variable {AP:Aaa} {m:FM} {S:Ab} {slot:Nat}
theorem o_toArr {l:List UInt8} {b len n:Nat} {full:Bool} {x:Ag} (hx:lo m x=some (.view b 0 len full)) (h1:S[b]?=some (some ⟨1,l.map fun b=>[.int .u8 (b.toNat:Int)]⟩)) (h0:0<n) (hn:l.length=n) (h2:len=l.length) :
 OpR AP m slot S (.toArr n 1 x) (.rptr (l.map g8)) (S.set b none) ([b],[b]) :=
 opr_w fun fr hfr f=>by
  have hc:(True∧0<n∧n≤len∧0+len≤(l.map fun b=>[Zv.int .u8 (b.toNat:Int)]).length):=⟨trivial,h0,by omega,by simp;omega⟩
  simp only [Av,sem,hfr.opd hx,RM.run,h1]
  rw [if_pos hc]
  subst hn
  have e:(l.map fun b=>[Zv.int .u8 (b.toNat:Int)]).length=l.length:=by simp
  rw [List.drop_zero,←e,List.take_length,AeS]
  rfl
theorem o_loadRW {sz:Nat} {a:Ag} {r:List Zv} (h:lo m a=some (.rptr r)) (h2:r.length=sz):OpR AP m slot S (.load true sz a) (.agg r) S ([],[]) :=
 Amk h (by omega) (by
  subst h2
  simp only [Abe,if_true,Nat.le_refl,List.take_length])
end
def ctrB (q n:BitVec 64):List UInt8:=Bd q 8++Bd n 8
@[simp] theorem AzR (q n:BitVec 64):(ctrB q n).length=16:=by simp [ctrB]
theorem AkP (q n:BitVec 64):Ak AP0 AeJ [w64 q,w64 n] (.agg ((ctrB q n).map g8)):=by
 obtain⟨C,hC⟩:∃ C,ctrB q n=C:=⟨_,rfl⟩
 have hl:=AzR q n
 rw [hC] at hl ⊢
 refine Al (af:=AhF) rfl rfl ?_
 refine tS (tO (tR 1 rfl (tN (tS (tO (tR 1 rfl ?_))))))
 refine tC rfl rfl (AoH _ 8 (by omega)) rfl rfl rfl rfl rfl rfl ?_;refine tR 1 rfl ?_
 refine tC rfl rfl (AoH _ 8 (by omega)) rfl rfl rfl rfl rfl rfl ?_;refine tP (Afd rfl rfl (by simp)) rfl rfl rfl rfl ?_
 refine AH (Awk rfl) rfl rfl rfl rfl ?_
 rw [show Bd q 8++Bd n 8=C from hC]
 refine tP (o_toArr rfl rfl (by decide) hl rfl) rfl rfl rfl rfl ?_
 refine tP (o_loadRW rfl (by simpa using hl)) rfl rfl rfl rfl ?_
 refine tP (AL rfl rfl rfl rfl (by simpa using hl) (aSm (fun _=>rfl) _)) rfl rfl rfl rfl ?_
 refine tN (tT (Acr (sz':=16) rfl rfl (by simpa using hl) (cLm (fun _=>rfl) _)))
def Asi (W:List UInt8) (q:BitVec 64) (s:List UInt8) (i:Nat):UInt8:=UInt8.ofBitVec ((s.getD i 0).toBitVec ^^^ ((encP W (ctrB q (BitVec.ofNat 64 (i / 16)))).getD (i%16) 0).toBitVec)
def ctrP (W:List UInt8) (q:BitVec 64) (s:List UInt8):List UInt8:=(List.range s.length).map (Asi W q s)
@[simp] theorem ArK (W:List UInt8) (q:BitVec 64) (s:List UInt8):(ctrP W q s).length=s.length:=by simp [ctrP]
theorem AzQ (W:List UInt8) (q:BitVec 64) (s:List UInt8):(List.range s.length).map (Asi W q s)=ctrP W q s:=rfl
theorem Aht (W s:List UInt8) (q:BitVec 64) (hW:W.length=176) (hs:s.length<4294967296):Ak AP0 Agp [.agg (keyC W),w64 q,.str s] (.str (ctrP W q s)):=by
 have hkl:=AcT W hW
 have hks:=Afy W
 have hkc:=Ajs W
 refine Al (af:=Ako) rfl rfl ?_
 refine tS (tO ?_)
 refine AH (Aek rfl hkl) rfl rfl rfl rfl ?_
 refine tR 1 rfl (tN (tS (tO (tR 1 rfl ?_))));refine AH (Awk rfl) rfl rfl rfl rfl ?_
 refine tR 1 rfl (tN (tS (tS (tO (tR 1 rfl (tN ?_))))))
 refine tB (lST (σ:=Nat) (fun j=>s.length - 16*j) (fun j=>[(1,w64 q),(3,.ptr 0 0 0),(7,.view 1 0 s.length false),(8,n64 (16*j))])
  (fun j S=>16*j<s.length+16∧S[0]?=some (some ⟨433,[keyC W]⟩)∧S[1]?=some (some ⟨1,(updA (Asi W q s) s (min (16*j) s.length)).map g8r⟩)) 0 (by (repeat' (first | exact wN | refine wC rfl ?_))) ⟨by omega,rfl,by rw [Nat.mul_zero,Nat.zero_min,AlC];rfl⟩ ?_)
 rintro j S ⟨hj,h0,h1⟩
 refine tS (tS (tO (tR 4 rfl (tN ?_))))
 refine tQ rfl decide_eq_true_iff (fun h=>tK ?_) (fun h=>tX ?_)
 ·have hj':16*j<s.length:=by omega
  have he:=enc_ok W (ctrB q (BitVec.ofNat 64 j)) hW (by simp)
  refine tS ?_;refine tB ?_;refine tS ?_;refine Adz [none] rfl ?_
  refine dP rfl rfl (oLW rfl (AU h0) hkl) ?_
  have hcb:Ak AP0 AeJ [w64 q,.int .u64 ((16*j / 16:Nat):Int)] (.agg ((ctrB q (BitVec.ofNat 64 j)).map g8)):=by
   have h1:=AkP q (BitVec.ofNat 64 j)
   have h2:(BitVec.ofNat 64 j).toNat=j:=by rw [BitVec.toNat_ofNat,Nat.mod_eq_of_lt (by omega)]
   rw [show w64 (BitVec.ofNat 64 j) = .int .u64 ((BitVec.ofNat 64 j).toNat:Int) from rfl,h2] at h1
   rw [show 16*j / 16=j by omega]
   exact h1
  refine dR 2 rfl ?_;refine dP rfl rfl (AsN (b:=16) rfl rfl (by omega) (AcV (by omega))) ?_
  refine dP rfl rfl (Afv rfl (AaA (by omega))) ?_
  refine AF rfl rfl hcb rfl rfl rfl rfl rfl ?_
  refine AF rfl (by simp only [Aj,by1,Bool.and_true];exact hkc) he (by rw [nrf]) rfl rfl rfl rfl ?_
  generalize hE:encP W (ctrB q (BitVec.ofNat 64 j))=E
  have hEl:E.length=16:=by rw [←hE];exact AzK _ _
  refine dP rfl rfl (Aqi) ?_
  refine dP rfl rfl (AL rfl rfl (Ax AW) (by simp) (by simp;omega) (aSm (fun _=>rfl) _)) ?_;refine dN ?_
  have hq:∃ p,S.length=p+2:=⟨S.length - 2,by have:=(List.getElem?_eq_some_iff.1 h1).1;omega⟩
  have hz:(zs .u8 16).length=16:=rfl
  obtain⟨p,hq⟩:=hq
  obtain⟨U,hU⟩:∃ U,S++[some ⟨16,[E.map g8]⟩]=U:=⟨_,rfl⟩
  have u0:=hU▸AU (r:=[some ⟨16,[E.map g8]⟩]) h0
  have u1:=hU▸AU (r:=[some ⟨16,[E.map g8]⟩]) h1
  have u2:U[S.length]?=some (some ⟨16,[E.map g8]⟩):=hU▸AW
  simp only [BN,hz,hU]
  rw [hq] at u2 ⊢
  clear hU h0 h1 hq S
  refine⟨rfl,?_⟩
  have hmin:min (16*j) s.length=16*j:=Nat.min_eq_left (by omega)
  rw [hmin] at u1
  refine tS (tO (tR 3 rfl ?_));refine tP (oA (b:=16) rfl rfl (by omega)) rfl rfl rfl rfl ?_
  refine tR 2 rfl ?_;refine tP (o_minn rfl rfl) rfl rfl rfl rfl ?_
  refine tP (AsM rfl u1 (by simp;omega) (.inr ⟨_,_,rfl,rfl⟩) (.inr ⟨_,_,rfl,rfl⟩) (by omega) (by simp;omega)) rfl rfl rfl rfl ?_
  obtain⟨n,hn,hn2,hn3⟩:∃ n,min (16*j+16) s.length - 16*j=n∧n≤16∧16*j+n=min (16*(j+1)) s.length:=⟨_,rfl,by omega,by omega⟩
  rw [hn]
  refine tR 2 rfl (tN ?_)
  refine tB (lST (σ:=Nat) (fun i=>n - i) (fun i=>[(1,w64 q),(3,.ptr 0 0 0),(7,.view 1 0 s.length false),(8,n64 (16*j)),(9,.ptr (p+2) 0 0),(34,n64 n),(35,n64 i)])
   (fun i S=>i≤n∧S[0]?=some (some ⟨433,[keyC W]⟩)∧S[1]?=some (some ⟨1,(updA (Asi W q s) s (16*j+i)).map g8r⟩)∧S[p+2]?=some (some ⟨16,[E.map g8]⟩)) 0 (by (repeat' (first | exact wN | refine wC rfl ?_))) ⟨by omega,u0,u1,u2⟩ ?_)
  clear u0 u1 u2 U
  rintro i S ⟨hi,h0,h1,h2⟩
  refine tS (tO (tR 1 rfl (tN (tS ?_))))
  refine tQ rfl decide_eq_true_iff (fun h=>tK ?_) (fun h=>tX ?_)
  ·have hi':i<n:=by omega
   refine tS ?_;refine tB ?_;refine tS (tO (tR 2 rfl (tN ?_)));refine tD0 rfl ?_
   refine dR 3 rfl ?_;refine dP rfl rfl (oA rfl rfl (by omega)) ?_;refine dP rfl rfl (AE rfl rfl (by omega) h1 rfl) ?_
   refine dP rfl rfl (AbO 0 rfl h1 (by simp;omega) rfl) ?_;refine dR 1 rfl ?_;refine dP rfl rfl (AM rfl rfl (by omega)) ?_
   refine dP rfl rfl (AN 0 rfl h2 (by omega)) ?_;refine dP rfl rfl (oB rfl rfl (AC _ _)) ?_
   refine dP rfl rfl (AE rfl rfl (by omega) h1 rfl) ?_;refine dP rfl rfl (Agh rfl rfl h1 (by simp;omega)) ?_;refine dN ?_
   refine⟨rfl,?_⟩;refine tO ?_;refine tP (oA (b:=1) rfl rfl (by omega)) rfl rfl rfl rfl ?_;refine tR 1 rfl (tN ?_)
   refine⟨i+1,by omega,by (repeat' (first | exact wN | refine wC rfl ?_)),by omega,Aw (by omega) h0,(Ax h1).trans ?_,Aw (by omega) h2⟩
   have ht:Asi W q s (16*j+i)=UInt8.ofBitVec ((s.getD (16*j+i) 0).toBitVec ^^^ (E.getD i 0).toBitVec):=by
    rw [Asi,show (16*j+i) / 16=j by omega,show (16*j+i)%16=i by omega,hE]
   rw [AlD (Nat.le_refl _) (by omega),←Nat.add_assoc,←ApE (by omega),ht]
   try rfl
  ·have:i=n:=by omega
   subst this
   rw [hn3] at h1
   refine tO (tR 1 rfl ?_);refine tP (oA (b:=16) rfl rfl (by omega)) rfl rfl rfl rfl ?_;refine tR 1 rfl ?_
   refine tN ?_
   exact⟨j+1,by omega,by (repeat' (first | exact wN | refine wC rfl ?_)),by omega,h0,h1⟩
 ·have hj':s.length≤16*j:=by omega
  rw [Nat.min_eq_right hj',AlE rfl,AzQ] at h1
  refine tS (tO (tR 1 rfl ?_));refine tP (AgN rfl h1 (by simp)) rfl rfl rfl rfl ?_;refine tR 1 rfl ?_
  refine tN ?_;exact tT (AS rfl ⟨_,fzO rfl⟩)
end Go.Eng.Ses
namespace Go.Eng.Ses
open Go Go.Eng
variable [Inhabited GlobT]
attribute [local irreducible] OpR TL TD TC TS Ak encP Bd Bz ctrP
theorem o_quou {AP:Aaa} {m:FM} {S:Ab} {slot:Nat} {x y:Ag} {a b:Nat} {k:IntKind} (hx:lo m x=some (.int k (a:Int))) (hy:lo m y=some (.int k (b:Int))) (h:0<b) (hf:k.wrap ((a / b:Nat):Int)=((a / b:Nat):Int)):OpR AP m slot S (.bin .quo x y) (.int k ((a / b:Nat):Int)) S ([],[]) :=
 oB hx hy (by
  simp only [abin,Abn,Bool.false_eq_true,if_false,if_true,aintop]
  rw [if_neg (by omega),show ((a:Int).tdiv b)=((a / b:Nat):Int) from rfl,hf])
theorem put_drop (n:BitVec 64) (i:Nat) (hi:i<8):[UInt8.ofNat (((n.toNat / 256^i%256:Nat):Int)).toNat]++(Bd n 8).drop (8 - i)=(Bd n 8).drop (8 - (i+1)):=by
 have hlen:8 - (i+1)<(Bd n 8).length:=by rw [Aqa];omega
 rw [List.drop_eq_getElem_cons hlen,show 8 - (i+1)+1=8 - i by omega]
 show _::_=_
 congr 1
 simp only [Bd,List.getElem_map,List.getElem_range,Int.toNat_natCast]
 rw [show 8 - 1 - (8 - (i+1))=i by omega]
 apply UInt8.toNat_inj.1
 show (UInt8.ofNat _).toNat=((n >>> (8*i)).setWidth 8).toNat
 rw [BitVec.toNat_setWidth,BitVec.toNat_ushiftRight,Nat.shiftRight_eq_div_pow,Nat.pow_mul]
 simp
theorem Aqb (n:BitVec 64):Ak AP0 Aer [w64 n,n64 8] (.str (Bd n 8)):=by
 refine Al (af:=Anp) rfl rfl ?_
 refine tS (tO (tR 1 rfl (tN (tS (tO (tR 1 rfl ?_))))))
 refine tN (tS (tS (tO (tR 1 rfl (tN ?_)))))
 refine tB (lST (σ:=Nat × Nat) (fun q=>8 - q.1) (fun q=>[(0,u64 q.2),(1,n64 8),(5,.str ((Bd n 8).drop (8 - q.1))),(6,n64 q.1)])
  (fun q S=>q.1≤8∧q.2=n.toNat / 256^q.1∧S=[]) (0,n.toNat) (by dsimp only;rw [Nat.sub_zero,List.drop_of_length_le (by simp)];(repeat' (first | exact wN | refine wC rfl ?_))) ⟨by omega,by simp,rfl⟩ ?_)
 rintro⟨i,m⟩ S ⟨hi,hm,rfl⟩
 dsimp only at *
 refine tS (tS (tO (tR 4 rfl ?_)))
 refine Ady 10 rfl decide_eq_true_iff (fun h=>?_) (fun h=>?_)
 ·have hi':i<8:=by omega
  refine tR 3 rfl (tN ?_)
  refine tQ rfl decide_eq_true_iff (fun h=>tK ?_) (fun h=>absurd (by omega) h)
  refine tS ?_;refine tB ?_;refine tS (tO (tR 1 rfl ?_))
  refine tP (Abh (b:=256) rfl rfl (by omega)) rfl rfl rfl rfl ?_;refine tP (Afv rfl (fits_u8 (by omega))) rfl rfl rfl rfl ?_
  refine tP (AZ rfl rfl rfl) rfl rfl rfl rfl ?_;refine tR 1 rfl (tR 1 rfl ?_)
  refine tP (Afd rfl rfl (by simp;omega)) rfl rfl rfl rfl ?_;refine tR 1 rfl (tN (tO (tR 1 rfl ?_)))
  have hmn:m≤n.toNat:=by rw [hm];exact Nat.div_le_self _ _
  have hnl:=n.isLt
  refine tP (o_quou (a:=m) (b:=256) rfl rfl (by omega) (AaA (by omega))) rfl rfl rfl rfl ?_
  refine tR 1 rfl (tN (tO (tR 1 rfl ?_)))
  refine tP (oA (b:=1) rfl rfl (by omega)) rfl rfl rfl rfl ?_;refine tR 1 rfl (tN ?_)
  refine⟨(i+1,m / 256),by dsimp only;omega,?_,by dsimp only;omega,?_,rfl⟩
  ·dsimp only
   rw [←put_drop n i hi',←hm]
   (repeat' (first | exact wN | refine wC rfl ?_))
  ·dsimp only
   rw [hm,Nat.div_div_eq_div_mul,Nat.pow_succ]
 ·have:i=8:=by omega
  subst this
  refine tR 3 rfl (tN ?_);refine AI (t:=false) rfl (fun h=>nomatch h) (fun _=>?_);refine tX ?_;refine tS ?_
  refine tO (tR 2 rfl (tN ?_));exact tT (AS rfl ⟨_,fzO rfl⟩)
theorem put1n (j:Nat) (h:j<18446744073709551616):Ak AP0 Aer [.int .u64 (j:Int),n64 8] (.str (Bd (BitVec.ofNat 64 j) 8)):=by
 have h1:=Aqb (BitVec.ofNat 64 j)
 have h2:(BitVec.ofNat 64 j).toNat=j:=by rw [BitVec.toNat_ofNat,Nat.mod_eq_of_lt (by omega)]
 rw [show w64 (BitVec.ofNat 64 j) = .int .u64 ((BitVec.ofNat 64 j).toNat:Int) from rfl,h2] at h1
 exact h1
def strB (k:List UInt8) (q:BitVec 64) (i:Nat):UInt8:=(encP (Bz k) (ctrB q (BitVec.ofNat 64 (i / 16)))).getD (i%16) 0
def strP (k:List UInt8) (q:BitVec 64) (n:Nat):List UInt8:=(List.range n).map (strB k q)
@[simp] theorem ApK (k:List UInt8) (q:BitVec 64) (n:Nat):(strP k q n).length=n:=by simp [strP]
theorem BcG (k:List UInt8) (q:BitVec 64) (n:Nat):strP k q n++[strB k q n]=strP k q (n+1):=by simp [strP,List.range_succ]
set_option maxHeartbeats 2000000 in
theorem BcF (k:List UInt8) (q:BitVec 64) (n:Nat) (hk:k.length=16) (hn:n<4294967296):Ak AP0 AkL [.str k,w64 q,n64 n] (.str (strP k q n)):=by
 have hw:=words_ok k hk
 have hby:=fun b hb=>by_ok k b hk hb
 have hbx:=box5_ok
 have c1:Ao (boxL.map fun b=>[g8 b])=true:=cLLm (fun _=>rfl) _
 have c2:Ao ((List.range 44).map fun w=>(wordB k w).map g8)=true:=cLLm (fun _=>cLm (fun _=>rfl) _) _
 have n1:Aab (boxL.map fun b=>[g8 b])=true:=nLLm (fun _=>rfl) _
 have n2:Aab ((List.range 44).map fun w=>(wordB k w).map g8)=true:=nLLm (fun _=>nLm (fun _=>rfl) _) _
 generalize (boxL.map fun b=>[g8 b])=bx at *
 generalize ((List.range 44).map fun w=>(wordB k w).map g8)=ws at *
 refine Al (af:=AfP) rfl rfl ?_
 refine tS (tO (tR 1 rfl (tN (tS (tO (tR 1 rfl ?_))))))
 refine tN (tS (tO ?_));refine tC rfl rfl (hbx) rfl rfl rfl rfl rfl rfl ?_;refine tR 1 rfl (tN ?_)
 refine tS (tO (tR 2 rfl ?_))
 refine tC rfl (by simp only [Aj,Zv.closed,c1,Bool.and_self,Bool.true_and]) hw (by simp only [norefL,Zv.noref,n1,Bool.and_self,Bool.true_and,Bool.true_or]) rfl rfl rfl rfl rfl ?_
 refine tR 1 rfl (tN (tS (tS (tO (tR 1 rfl (tN ?_))))))
 refine tB (lST (σ:=Nat) (fun j=>n+16 - 16*j) (fun j=>[(1,w64 q),(2,n64 n),(7,.str (strP k q (min (16*j) n))),(8,.imm bx),(9,.imm ws),(10,u64 j)])
  (fun j S=>16*j<n+16) 0 (by rw [Nat.mul_zero,Nat.zero_min];(repeat' (first | exact wN | refine wC rfl ?_))) (by omega) ?_)
 rintro j S hj
 refine tS (tS (tO (tR 4 rfl (tN ?_))))
 rw [ApK]
 refine tQ rfl decide_eq_true_iff (fun h=>tK ?_) (fun h=>tX ?_)
 ·have hj':16*j<n:=by omega
  have hpj:=put1n j (by omega)
  have hst:strP k q (min (16*j) n)=strP k q (16*j):=by rw [Nat.min_eq_left (by omega)]
  rw [hst]
  refine tS ?_;refine tB ?_;refine tS (tO (tR 1 rfl ?_))
  refine tC rfl rfl (Aqb q) rfl rfl rfl rfl rfl rfl ?_;refine tR 1 rfl ?_;refine tC rfl rfl (hpj) rfl rfl rfl rfl rfl rfl ?_
  refine tP (Afd rfl rfl (by simp)) rfl rfl rfl rfl ?_;refine tR 1 rfl (tN (tS (tO ?_)))
  refine AcP rfl rfl ?_;refine tN (tS (tS (tO (tR 1 rfl (tN ?_)))))
  obtain⟨C,hC⟩:∃ C,ctrB q (BitVec.ofNat 64 j)=C:=⟨_,rfl⟩
  have hCl:C.length=16:=by rw [←hC];exact AzR _ _
  rw [show Bd q 8++Bd (BitVec.ofNat 64 j) 8=C from hC]
  obtain⟨T,hT⟩:∃ T,S++[some ⟨16,[(fillA 0 (fun i=>C.getD i 0) 16 0).map g8]⟩]=T:=⟨_,rfl⟩
  have tp:T[S.length]?=some (some ⟨16,[(fillA 0 (fun i=>C.getD i 0) 16 0).map g8]⟩):=hT▸AW
  show TC _ _ _ _ (S++[some ⟨16,[(fillA 0 (fun i=>C.getD i 0) 16 0).map g8]⟩]) _
  rw [hT]
  generalize S.length=p at tp ⊢
  clear hT S
  refine tB (lST (σ:=Nat) (fun i=>16 - i) (fun i=>[(1,w64 q),(2,n64 n),(7,.str (strP k q (16*j))),(8,.imm bx),(9,.imm ws),(10,u64 j),(11,.str C),(12,.ptr p 0 0),(13,n64 i)])
   (fun i S=>i≤16∧S[p]?=some (some ⟨16,[(fillA 0 (fun i=>C.getD i 0) 16 i).map g8]⟩)) 0 (by (repeat' (first | exact wN | refine wC rfl ?_))) ⟨by omega,tp⟩ ?_)
  clear tp T
  rintro i S ⟨hi,hp⟩
  refine tS (tS (tO (tR 2 rfl (tN ?_))))
  refine tQ rfl decide_eq_true_iff (fun h=>tK ?_) (fun h=>tX ?_)
  ·have hi':i<16:=by omega
   refine tS (tB ?_)
   refine tO (tR 3 rfl ?_);refine tP (AcR rfl rfl (by omega)) rfl rfl rfl rfl ?_
   refine tP (AM rfl rfl (by omega)) rfl rfl rfl rfl ?_;refine tP (Bu rfl rfl hp (by simp;omega)) rfl rfl rfl rfl ?_;refine tN ?_
   refine tO (tR 1 rfl ?_);refine tP (oA (b:=1) rfl rfl (by omega)) rfl rfl rfl rfl ?_;refine tR 1 rfl ?_
   refine tN ?_
   refine⟨i+1,by omega,by (repeat' (first | exact wN | refine wC rfl ?_)),by omega,(Ax hp).trans ?_⟩
   have hg:C.getD i 0=C[i]:=by rw [List.getD_eq_getElem?_getD,List.getElem?_eq_getElem (by omega)];rfl
   rw [←Bh hi',hg]
  ·have:i=16:=by omega
   subst this
   rw [Bw,Acp _ 16 hCl] at hp
   have hb:=hby C hCl
   have hE:∀ i,strB k q (16*j+i)=if i<16 then (encP (Bz k) C).getD i 0 else strB k q (16*j+i):=fun i=>by
    split
    ·rename_i hi
     rw [strB,show (16*j+i) / 16=j by omega,show (16*j+i)%16=i by omega,hC]
    ·rfl
   have hEl:=AzK (Bz k) C
   generalize encP (Bz k) C=E at hb hE hEl
   refine tS (tO (tR 2 rfl ?_));refine tP (oLW rfl hp (by simp;omega)) rfl rfl rfl rfl ?_
   refine tC rfl (by simp only [Aj,Zv.closed,c1,c2,Bool.and_self,Bool.true_and,Bool.and_true];exact cLm (fun _=>rfl) _) hb (by rw [nrf]) rfl rfl rfl rfl rfl ?_
   refine AcP (row:=zs .u8 16) (sz:=16) rfl rfl ?_
   refine tP (AL rfl rfl AW rfl (by simpa using hEl) (aSm (fun _=>rfl) _)) rfl rfl rfl rfl ?_
   rw [BN]
   obtain⟨T,hT⟩:∃ T,S++[some ⟨16,[E.map g8]⟩]=T:=⟨_,rfl⟩
   have tp:T[S.length]?=some (some ⟨16,[E.map g8]⟩):=hT▸AW
   rw [hT]
   generalize S.length=p2 at tp ⊢
   clear hT hp S
   refine tN (tS (tO (tR 1 rfl (tN ?_))))
   refine tB (lST (σ:=Nat) (fun i=>16 - i) (fun i=>[(1,w64 q),(2,n64 n),(7,.str (strP k q (16*j+i))),(8,.imm bx),(9,.imm ws),(10,u64 j),(14,.ptr p2 0 0),(15,n64 i)])
    (fun i S=>i≤16∧16*j+i≤n∧S[p2]?=some (some ⟨16,[E.map g8]⟩)) 0 (by (repeat' (first | exact wN | refine wC rfl ?_))) ⟨by omega,by omega,tp⟩ ?_)
   clear tp T
   rintro i S ⟨hi,hin,hp⟩
   refine tS (tS (tO (tR 3 rfl ?_)))
   refine Ady 46 rfl decide_eq_true_iff (fun h=>?_) (fun h=>?_)
   ·have hi':i<16:=by omega
    have hE:=hE i
    rw [if_pos hi'] at hE
    refine tR 5 rfl (tN ?_)
    rw [ApK]
    refine tQ rfl decide_eq_true_iff (fun h=>tK ?_) (fun h=>tX ?_)
    ·have hn':16*j+i<n:=by omega
     refine tS ?_;refine tB ?_;refine tO (tR 2 rfl ?_);refine tP (AM rfl rfl (by omega)) rfl rfl rfl rfl ?_
     refine tP (AN 0 rfl hp (by omega)) rfl rfl rfl rfl ?_;refine tP (AZ rfl rfl rfl) rfl rfl rfl rfl ?_
     refine tP (o_text1 rfl) rfl rfl rfl rfl ?_;refine tP (Afd rfl rfl (by simp;omega)) rfl rfl rfl rfl ?_;refine tR 1 rfl ?_
     refine tN (tO (tR 1 rfl ?_));refine tP (oA (b:=1) rfl rfl (by omega)) rfl rfl rfl rfl ?_
     refine tR 1 rfl (tN ?_)
     refine⟨i+1,by omega,?_,by omega,by omega,hp⟩
     rw [show ({toBitVec:=(E.getD i 0).toBitVec}:UInt8)=strB k q (16*j+i) from hE.symm,BcG]
     (repeat' (first | exact wN | refine wC rfl ?_))
    ·have:16*j+i=min (16*(j+1)) n:=by omega
     rw [this]
     refine tO (tR 1 rfl ?_);refine tP (Ait (b:=1) rfl rfl (AaA (by omega))) rfl rfl rfl rfl ?_;refine tR 1 rfl ?_
     refine tN ?_
     exact⟨j+1,by omega,by (repeat' (first | exact wN | refine wC rfl ?_)),by omega⟩
   ·have:i=16:=by omega
    subst this
    have:16*j+16=min (16*(j+1)) n:=by omega
    rw [this]
    refine tR 5 rfl (tN ?_);refine AI (t:=false) rfl (fun h=>nomatch h) (fun _=>?_);refine tX ?_;refine tO ?_
    refine tR 1 rfl ?_;refine tP (Ait (b:=1) rfl rfl (AaA (by omega))) rfl rfl rfl rfl ?_;refine tR 1 rfl (tN ?_)
    exact⟨j+1,by omega,by (repeat' (first | exact wN | refine wC rfl ?_)),by omega⟩
 ·have:n≤16*j:=by omega
  rw [Nat.min_eq_right this]
  refine tS (tO (tR 2 rfl (tN ?_)));exact tT (AS rfl ⟨_,fzO rfl⟩)
theorem turn6_ok (k s:List UInt8) (q:BitVec 64) (hk:k.length=16) (hs:s.length<4294967296):Ak AP0 Api [.str k,w64 q,.str s] (.str (ctrP (Bz k) q s)):=by
 have hst:=BcF k q s.length hk hs
 have hcell:∀ i,Asi (Bz k) q s i=UInt8.ofBitVec ((s.getD i 0).toBitVec ^^^ (strB k q i).toBitVec):=fun i=>rfl
 have hsl:=ApK k q s.length
 have hsg:∀ i,i<s.length→(strP k q s.length).getD i 0=strB k q i:=fun i hi=>AX hi
 have hdef:=AzQ (Bz k) q s
 generalize strP k q s.length=X at hst hsl hsg
 refine Al (af:=Akg) rfl rfl ?_
 refine tS (tO (tR 1 rfl (tN (tS (tO (tR 4 rfl ?_))))))
 refine tC rfl rfl (hst) rfl rfl rfl rfl rfl rfl ?_;refine tR 1 rfl (tN (tS (tO ?_)))
 refine tR 2 rfl ?_;refine AH (Azf rfl rfl (by omega) (by omega)) rfl rfl rfl rfl ?_;refine tR 1 rfl (tN ?_)
 refine tS (tS (tO (tR 1 rfl (tN ?_))))
 refine tB (lST (σ:=Nat) (fun i=>s.length - i) (fun i=>[(2,.str s),(7,.str X),(8,.view 0 0 s.length true),(9,n64 i)])
  (fun i S=>i≤s.length∧S=[some ⟨1,(fillA 0 (Asi (Bz k) q s) s.length i).map g8r⟩]) 0 (by (repeat' (first | exact wN | refine wC rfl ?_))) ⟨by omega,by rw [Bbj,List.map_replicate];rfl⟩ ?_)
 rintro i S ⟨hi,rfl⟩
 refine tS (tS (tO (tR 4 rfl (tN ?_))))
 refine tQ rfl decide_eq_true_iff (fun h=>tK ?_) (fun h=>tX ?_)
 ·have hi':i<s.length:=by omega
  have h1:=hcell i
  have h2:=hsg i hi'
  have e1:s.getD i 0=s[i]:=by rw [List.getD_eq_getElem?_getD,List.getElem?_eq_getElem hi'];rfl
  have e2:X.getD i 0=X[i]:=by rw [List.getD_eq_getElem?_getD,List.getElem?_eq_getElem (by omega)];rfl
  rw [←h2,e1,e2] at h1
  refine tS ?_;refine tB ?_;refine tD0 rfl ?_;refine dR 4 rfl ?_;refine dP rfl rfl (AcR rfl rfl (by omega)) ?_
  refine dR 2 rfl ?_;refine dP rfl rfl (AcR rfl rfl (by omega)) ?_;refine dP rfl rfl (oB rfl rfl (AC _ _)) ?_
  refine dP rfl rfl (AE rfl rfl (by omega) rfl rfl) ?_;refine dP rfl rfl (Agh rfl rfl rfl (by simp;omega)) ?_;refine dN ?_
  refine⟨rfl,?_⟩;refine tO (tR 1 rfl ?_);refine tP (oA (b:=1) rfl rfl (by omega)) rfl rfl rfl rfl ?_
  refine tR 1 rfl (tN ?_)
  refine⟨i+1,by omega,by (repeat' (first | exact wN | refine wC rfl ?_)),by omega,?_⟩
  rw [←Bh hi',h1]
  rfl
 ·have:i=s.length:=by omega
  subst this
  rw [Bw,hdef]
  refine tS (tO (tR 1 rfl ?_));refine tP (AgN rfl rfl (by simp)) rfl rfl rfl rfl ?_;refine tR 1 rfl ?_
  refine tN ?_;exact tT (AS rfl ⟨_,fzO rfl⟩)
end Go.Eng.Ses
namespace Go.Eng.Ses
open Go Go.Eng
variable [Inhabited GlobT]
attribute [local irreducible] OpR TL TD TC TS Ak encP Bd Bz ctrP BL hmacP
def sealC (W m:List UInt8):List Zv := .bool true::(keyC W++[.str m])
theorem Afi (W m:List UInt8) (hW:W.length=176):(sealC W m).length=435:=by simp [sealC,hW,AdO]
theorem AhX (W m:List UInt8):(sealC W m).all An=true:=by
 rw [sealC,List.all_cons,List.all_append,Afy];rfl
theorem Ane:∀ (a b:List Zv),Aj (a++b)=(Aj a && Aj b)
 | [],b=>by simp [Aj]
 | x::a,b=>by simp [Aj,Ane a b,Bool.and_assoc]
theorem AoQ:∀ (a b:List Zv),norefL (a++b)=(norefL a && norefL b)
 | [],b=>by simp [norefL]
 | x::a,b=>by simp [norefL,AoQ a b,Bool.and_assoc]
theorem ApR (W m:List UInt8):Aj (sealC W m)=true:=by
 rw [sealC,Aj,Ane,Ajs];rfl
theorem Azp (W:List UInt8):norefL (keyC W)=true:=by
 have:=keyC_nr W
 rwa [norefL,Zv.noref,norefL,Bool.and_true] at this
theorem sealC_nr (W m:List UInt8):norefL (sealC W m)=true:=by
 rw [sealC,norefL,AoQ,Azp];rfl
def zbox:List Zv:=[(.bool false),(.bool false)]++zs .u8 432++[(.str [])]
set_option maxRecDepth 10000 in
theorem Ayw:zbox.length=435:=rfl
set_option maxRecDepth 10000 in
theorem Baw (W m:List UInt8) (hW:W.length=176):Bbh ([(.bool false),(.bool false)]++zs .u8 432++[(.str [])]) [((0,1),.bool true),((1,433),.agg (keyC W)),((434,1),.str m)]=some (sealC W m):=by
 rw [Als]
 have hk:=AcT W hW
 have hs:=Afy W
 have hs':=hs
 obtain⟨Z,hZ,hZl⟩:∃ Z:List Zv,([(.bool false),(.bool false)]++zs .u8 432++[(.str [])]:List Zv)=[.bool false]++(Z++[.str []])∧Z.length=433:=⟨.bool false::zs .u8 432,rfl,rfl⟩
 rw [hZ]
 generalize hkc:keyC W=kc at hk hs
 have e2:List.drop 433 (Z++[Zv.str []])=[.str []]:=by rw [←hZl,List.drop_left]
 have e3:∀ x:List Zv,List.take 433 (kc++x)=kc:=fun x=>by rw [←hk,List.take_left]
 have e4:List.drop 434 (kc++[Zv.str []])=[]:=by rw [List.drop_eq_nil_iff];simp [hk]
 clear hZ hs' hW
 simp only [BB,Bn,Bg]
 rw [if_pos ⟨rfl,rfl,by simp⟩,if_pos ⟨trivial,hk,by simp [hZl]⟩]
 refine(if_pos ⟨rfl,rfl,by simp [hk,hZl]⟩).trans ?_
 unfold sealC
 rw [hkc]
 simp [e2,e3,e4]
end Go.Eng.Ses
namespace Go.Eng.Ses
open Go Go.Eng
variable [Inhabited GlobT]
attribute [local irreducible] OpR TL TD TC TS Ak encP Bd Bz ctrP BL hmacP
abbrev encL:List UInt8:=[101,110,99]
abbrev macL:List UInt8:=[109,97,99]
def sealP (k:List UInt8):List Zv:=sealC (Bz (BL k encL 16)) (BL k macL 32)
set_option maxRecDepth 10000 in
set_option maxHeartbeats 2000000 in
theorem AvL (k:List UInt8) (h0:k≠[]) (hk:k.length≤64):Ak AP0 Ajv [.str k] (.tuple [.agg (sealP k),n64 0]):=by
 have he:=AtU k encL 16 (by omega) (by omega) (by omega) (by decide)
 have hm:=AtU k macL 32 (by omega) (by omega) (by omega) (by decide)
 have hn:=new_ok (BL k encL 16) (AgY _ _ _ (by omega))
 have hW:=AyO (BL k encL 16)
 unfold sealP
 generalize BL k encL 16=E at *
 generalize BL k macL 32=M at *
 generalize Bz E=W at *
 have hb:=Baw W M hW
 have hkl:=AcT W hW
 have hks:=Afy W
 have hkc:=Ajs W
 have hbl:=Afi W M hW
 have hbs:=AhX W M
 have hbc:=ApR W M
 generalize sealC W M=B at *
 generalize keyC W=K at *
 obtain⟨Z,hZ⟩:∃ Z,([(.bool false),(.bool false)]++zs .u8 432++[(.str [])]:List Zv)=Z:=⟨_,rfl⟩
 have hZl:Z.length=435:=by rw [←hZ];exact Ayw
 obtain⟨Y,hY⟩:∃ Y,[Zv.bool false]++zs .u8 432=Y:=⟨_,rfl⟩
 have hYl:Y.length=433:=by rw [←hY];rfl
 refine Al (af:=Akb) rfl rfl ?_
 refine tS (tO (Aec hZ hZl rfl ?_))
 refine tR 1 rfl (tN (tS (tS (tO (tR 3 rfl ?_)))))
 refine Ady 12 rfl beq_iff_eq (fun h=>absurd h h0) (fun h=>?_)
 refine tR 4 rfl (tN ?_)
 refine tQ rfl decide_eq_true_iff (fun h=>absurd h (by omega)) (fun h=>tK ?_)
 refine tS (tO (tR 1 rfl ?_));refine tC rfl rfl (he) rfl rfl rfl rfl rfl rfl ?_;refine tR 5 rfl ?_
 refine tN (tS (tO (tR 1 rfl ?_)));refine tC rfl rfl (hm) rfl rfl rfl rfl rfl rfl ?_
 refine tR 5 rfl (tN (tS (tO (tR 1 rfl ?_))))
 refine tC rfl rfl (hn) rfl rfl rfl rfl rfl rfl ?_;refine tP (Br rfl) rfl rfl rfl rfl ?_
 refine tP (Afu rfl rfl) rfl rfl rfl rfl ?_
 refine tP (Afu rfl rfl) rfl rfl rfl rfl ?_
 refine Aec hY hYl rfl ?_
 refine tP (AL rfl rfl rfl hYl hkl hks) rfl rfl rfl rfl ?_
 refine tR 1 rfl (tN (tS (tO ?_)))
 refine tP (oLW rfl rfl hkl) rfl rfl rfl rfl ?_
 refine tR 1 rfl ?_
 refine tP (Aba rfl hb) rfl rfl rfl rfl ?_
 refine tP (AL rfl rfl rfl hZl hbl hbs) rfl rfl rfl rfl ?_
 refine tR 1 rfl (tN ?_)
 exact tT (Aig rfl rfl hbl hbc rfl rfl)
set_option maxRecDepth 10000 in
set_option maxHeartbeats 2000000 in
theorem AhW (W m:List UInt8) (hW:W.length=176):Ak AP0 AcJ [.agg (sealC W m)] (.agg (sealC W m)):=by
 have hkl:=Afi W m hW
 have hks:=AhX W m
 have hkc:=ApR W m
 obtain⟨r,hr⟩:∃ r,sealC W m = .bool true::r:=⟨_,rfl⟩
 generalize sealC W m=kc at hr hkl hks hkc ⊢
 refine Al (af:=AcL) rfl rfl ?_
 obtain⟨Z,hZ⟩:∃ Z,([(.bool false),(.bool false)]++zs .u8 432++[(.str [])]:List Zv)=Z:=⟨_,rfl⟩
 have hZl:Z.length=435:=by rw [←hZ];exact Ayw
 refine tS (tO ?_)
 refine AH (Aek rfl hkl) rfl rfl rfl rfl ?_
 refine Aec hZ hZl rfl ?_
 subst hr
 refine tN (tS (tS (tO (tR 3 rfl (tN ?_)))))
 refine AI (t:=false) rfl (fun h=>nomatch h) (fun _=>?_);refine tK (tS (tO ?_))
 refine tP (oLW rfl rfl hkl) rfl rfl rfl rfl ?_
 refine tP (AL rfl rfl rfl hZl hkl hks) rfl rfl rfl rfl ?_
 refine tN (tT (Acr rfl rfl hkl hkc))
theorem head_ok (a b:BitVec 64):Ak AP0 AgV [w64 a,w64 b] (.str (Bd a 8++Bd b 8)):=by
 refine Al (af:=Ahy) rfl rfl ?_
 refine tS (tO (tR 1 rfl (tN (tS (tO (tR 1 rfl ?_))))))
 refine tC rfl rfl (AoH _ 8 (by omega)) rfl rfl rfl rfl rfl rfl ?_;refine tR 1 rfl ?_
 refine tC rfl rfl (AoH _ 8 (by omega)) rfl rfl rfl rfl rfl rfl ?_;refine tP (Afd rfl rfl (by simp)) rfl rfl rfl rfl ?_
 refine tR 1 rfl (tN ?_);exact tT (AS rfl ⟨_,fzO rfl⟩)
theorem Azv (a b:BitVec 64):Ak AP0 Ajw [w64 a,w64 b] (.str (Bd a 8++Bd b 8)):=by
 refine Al (af:=Akf) rfl rfl ?_
 refine tS (tO (tR 1 rfl (tN (tS (tO (tR 1 rfl ?_))))))
 refine tC rfl rfl (Aqb _) rfl rfl rfl rfl rfl rfl ?_;refine tR 1 rfl ?_;refine tC rfl rfl (Aqb _) rfl rfl rfl rfl rfl rfl ?_
 refine tP (Afd rfl rfl (by simp)) rfl rfl rfl rfl ?_;refine tR 1 rfl (tN ?_);exact tT (AS rfl ⟨_,fzO rfl⟩)
def tagP (m:List UInt8) (a b:BitVec 64) (c:List UInt8):List UInt8:=(hmacP m (Bd a 8++Bd b 8++c)).take 16
theorem AyD (m:List UInt8) (a b:BitVec 64) (c:List UInt8):(tagP m a b c).length=16:=by simp [tagP,Aem]
theorem tag_ok (W m c:List UInt8) (a b:BitVec 64) (hW:W.length=176) (hm:m.length=32) (hc:c.length≤999000):Ak AP0 AdW [.agg (sealC W m),w64 a,w64 b,.str c] (.str (tagP m a b c)):=by
 have hkl:=Afi W m hW
 have hks:=AhX W m
 have hget:(sealC W m)[434]?=some (.str m):=by
  have e:sealC W m=(.bool true::keyC W)++[.str m]:=rfl
  rw [e,List.getElem?_append_right (by rw [List.length_cons,AcT W hW];omega)]
  rw [List.length_cons,AcT W hW];rfl
 generalize sealC W m=kc at *
 have hh:=Awq m [Bd a 8++Bd b 8,c] (by omega) (by simp) (by simp;omega)
 have ht:tagP m a b c=(hmacP m ([Bd a 8++Bd b 8,c].flatten)).take 16:=by simp [tagP]
 have htl:=Aem m ([Bd a 8++Bd b 8,c].flatten)
 rw [ht]
 generalize hmacP m ([Bd a 8++Bd b 8,c].flatten)=H at *
 refine Al (af:=AdZ) rfl rfl ?_
 refine tS (tO ?_)
 refine AH (Aek rfl hkl) rfl rfl rfl rfl ?_
 refine tR 1 rfl (tN (tS ?_));refine AfW ?_;refine AV rfl ?_;refine dR 1 rfl ?_
 refine dP rfl rfl (BK rfl rfl (r:=kc) rfl (by omega) (v := .str m) (by simp only [Abe,Bool.false_eq_true,if_false,List.head?_drop,Nat.zero_add];exact hget)) ?_
 refine dR 2 rfl ?_;refine AF rfl rfl (head_ok a b) rfl rfl rfl rfl rfl ?_;refine dR 1 rfl ?_
 refine dP rfl rfl (AZ rfl rfl rfl) ?_;refine dN ?_;refine⟨rfl,?_⟩;refine Am ?_
 refine AhQ rfl (Bv (fun n=>⟨_,fzO rfl⟩) (Bv (fun n=>⟨_,Ajt rfl⟩) AiA)) (hh) rfl rfl rfl rfl rfl rfl ?_
 refine tN ?_;refine Am ?_;refine tP (Agi rfl rfl (by simp;omega)) rfl rfl rfl rfl ?_;refine tN ?_;refine Am ?_
 refine tR 1 rfl (tN ?_);refine Aos ?_;exact tT (AS rfl ⟨_,fzO rfl⟩)
end Go.Eng.Ses
namespace Go.Eng.Ses
open Go Go.Eng
variable [Inhabited GlobT]
attribute [local irreducible] OpR TL TD TC TS Ak encP Bd Bz ctrP BL hmacP tagP
theorem AyJ (W m:List UInt8) (hW:W.length=176):((sealC W m).drop 1).take 433=keyC W:=by
 have e:sealC W m = .bool true::(keyC W++[.str m]):=rfl
 rw [e,List.drop_succ_cons,List.drop_zero,←AcT W hW,List.take_left]
def Bax (W m:List UInt8) (a b:BitVec 64) (s:List UInt8):List UInt8:=ctrP W b s++tagP m a b (ctrP W b s)
theorem AyL (W m:List UInt8):(Zv.agg (sealC W m)).noref=true:=by rw [Zv.noref];exact sealC_nr W m
theorem AyM (W m:List UInt8):(Zv.agg (sealC W m)).closed=true:=by rw [Zv.closed];exact ApR W m
theorem keyA_nr (W:List UInt8):(Zv.agg (keyC W)).noref=true:=by rw [Zv.noref];exact Azp W
theorem keyA_cl (W:List UInt8):(Zv.agg (keyC W)).closed=true:=by rw [Zv.closed];exact Ajs W
theorem AoM {AP:Aaa} {m:FM} {S:Ab} {slot w b f k sz':Nat} {a:Ag} {r:List Zv} (h:lo m a=some (.ptr b 0 f)) (hf:f=k) (h1:S[b]?=some (some ⟨sz',[r]⟩)) (h2:k+w≤r.length):OpR AP m slot S (.load true w a) (.agg ((r.drop k).take w)) S ([b],[]):=by
 subst hf
 exact BK h h1 (r:=r) rfl h2 (by
  simp only [Abe,if_true]
  rw [if_pos (by simp;omega)])
theorem seal_ok (W m s:List UInt8) (a b:BitVec 64) (hW:W.length=176) (hm:m.length=32) (hs:s.length≤999000):Ak AP0 AfC [.agg (sealC W m),w64 a,w64 b,.str s] (.str (Bax W m a b s)):=by
 have hkl:=Afi W m hW
 have hks:=AhX W m
 have hw:=AhW W m hW
 have ht:=tag_ok W m (ctrP W b s) a b hW hm (by rw [ArK];exact hs)
 have hc:=Aht W s b hW (by omega)
 have hk:=AyJ W m hW
 have hcl:=AyM W m
 have hnr:=AyL W m
 have kcl:=keyA_cl W
 have knr:=keyA_nr W
 have hT:Bax W m a b s=ctrP W b s++tagP m a b (ctrP W b s):=rfl
 rw [hT]
 have hCl:=ArK W b s
 have hGl:=AyD m a b (ctrP W b s)
 generalize sealC W m=B at *
 generalize keyC W=K at *
 generalize ctrP W b s=C at *
 generalize tagP m a b C=G at *
 refine Al (af:=Adn) rfl rfl ?_
 refine tS (tO ?_)
 refine AH (Aek rfl hkl) rfl rfl rfl rfl ?_
 refine tR 1 rfl (tN (tS (tO ?_)))
 refine tP (oLW rfl rfl hkl) rfl rfl rfl rfl ?_
 refine tC rfl (by simp only [Aj,hcl,Bool.and_self]) hw (by simp only [norefL,hnr,Bool.and_self,Bool.true_or]) rfl rfl rfl rfl rfl ?_
 refine tP (AL rfl rfl rfl hkl hkl hks) rfl rfl rfl rfl ?_
 refine tN (tS (tO (tR 1 rfl ?_)))
 refine tP (AoM rfl rfl rfl (by omega)) rfl rfl rfl rfl ?_
 rw [hk]
 refine tR 2 rfl ?_
 refine tC rfl (by simp only [Aj,kcl,Bool.true_and];rfl) hc (by simp only [norefL,knr,Bool.true_and,Bool.true_or];rfl) rfl rfl rfl rfl rfl ?_
 refine tR 1 rfl (tN (tS (tO (tR 1 rfl ?_))))
 refine tP (oLW rfl rfl hkl) rfl rfl rfl rfl ?_
 refine tR 3 rfl ?_
 refine tC rfl (by simp only [Aj,hcl,Bool.true_and];rfl) ht (by simp only [norefL,hnr,Bool.true_and,Bool.true_or];rfl) rfl rfl rfl rfl rfl ?_
 refine tP (Afd rfl rfl (by omega)) rfl rfl rfl rfl ?_;refine tR 1 rfl (tN ?_);exact tT (AS rfl ⟨_,fzO rfl⟩)
def openT (W m:List UInt8) (a b:BitVec 64) (t:List UInt8):List UInt8 × Nat :=
 if t.length<16 then ([],3) else
 let c:=t.take (t.length - 16)
 if tagP m a b c=t.drop (t.length - 16) then (ctrP W b c,0) else ([],8)
theorem open_ok (W m t:List UInt8) (a b:BitVec 64) (hW:W.length=176) (hm:m.length=32) (hs:t.length≤999000):Ak AP0 AfD [.agg (sealC W m),w64 a,w64 b,.str t] (.tuple [.str (openT W m a b t).1,n64 (openT W m a b t).2]):=by
 have hkl:=Afi W m hW
 have hks:=AhX W m
 have hw:=AhW W m hW
 have ht:=tag_ok W m (t.take (t.length - 16)) a b hW hm (by simp;omega)
 have hc:=Aht W (t.take (t.length - 16)) b hW (by simp;omega)
 have hk:=AyJ W m hW
 have hcl:=AyM W m
 have hnr:=AyL W m
 have kcl:=keyA_cl W
 have knr:=keyA_nr W
 have hgl:=AyD m a b (t.take (t.length - 16))
 have hsm:=Aji (tagP m a b (t.take (t.length - 16))) (t.drop (t.length - 16)) (by omega)
 have hT:openT W m a b t=if t.length<16 then ([],3) else if tagP m a b (t.take (t.length - 16))=t.drop (t.length - 16) then (ctrP W b (t.take (t.length - 16)),0) else ([],8):=rfl
 generalize openT W m a b t=R at *
 generalize sealC W m=B at *
 generalize keyC W=K at *
 generalize ctrP W b (t.take (t.length - 16))=C at *
 refine Al (af:=Ado) rfl rfl ?_
 refine tS (tO ?_)
 refine AH (Aek rfl hkl) rfl rfl rfl rfl ?_
 refine tR 2 rfl (tN (tS (tS (tO (tR 3 rfl (tN ?_))))))
 refine tQ rfl decide_eq_true_iff (fun h=>?_) (fun h=>tK ?_)
 ·rw [if_pos (by omega)] at hT
  subst hT
  refine tS (tO (tR 2 rfl (tN ?_)));exact tT (AS rfl ⟨_,fzO rfl⟩)
 ·rw [if_neg (by omega)] at hT
  refine tS (tO ?_)
  refine tP (oLW rfl rfl hkl) rfl rfl rfl rfl ?_
  refine tC rfl (by simp only [Aj,hcl,Bool.and_self]) hw (by simp only [norefL,hnr,Bool.and_self,Bool.true_or]) rfl rfl rfl rfl rfl ?_
  refine tP (AL rfl rfl rfl hkl hkl hks) rfl rfl rfl rfl ?_
  have hcl2:(t.take (t.length - 16)).length=t.length - 16:=by simp
  refine tN (tS (tO (tR 3 rfl ?_)))
  refine tP (AaH (b:=16) rfl rfl (by omega) (by omega)) rfl rfl rfl rfl ?_;refine tP (Agi rfl rfl (by omega)) rfl rfl rfl rfl ?_
  refine tR 1 rfl (tN (tS (tS ?_)));refine AfW ?_;refine AV rfl ?_
  refine dP rfl rfl (oLW rfl rfl hkl) ?_
  refine dR 3 rfl ?_
  refine AF rfl (by simp only [Aj,hcl,Bool.true_and];rfl) ht (by simp only [norefL,hnr,Bool.true_and,Bool.true_or];rfl) rfl rfl rfl rfl ?_
  refine dR 3 rfl ?_;refine dP rfl rfl (Aze rfl rfl (by omega)) ?_;refine dN ?_;refine⟨rfl,?_⟩;refine Am ?_
  rw [hcl2]
  refine tC rfl rfl (hsm) rfl rfl rfl rfl rfl rfl ?_;refine tN ?_;refine Am ?_;refine tR 1 rfl (tN ?_);refine Aos ?_
  by_cases hg:tagP m a b (t.take (t.length - 16))=t.drop (t.length - 16)
  ·rw [if_pos hg] at hT
   subst hT
   rw [show (tagP m a b (t.take (t.length - 16)) == t.drop (t.length - 16))=true from beq_iff_eq.2 hg]
   refine AI rfl (fun h=>nomatch h) (fun _=>tK ?_)
   refine tS (tO (tR 1 rfl ?_))
   refine tP (AoM rfl rfl rfl (by omega)) rfl rfl rfl rfl ?_
   rw [hk]
   refine tR 2 rfl ?_
   refine tC rfl (by simp only [Aj,kcl,Bool.true_and];rfl) hc (by simp only [norefL,knr,Bool.true_and,Bool.true_or];rfl) rfl rfl rfl rfl rfl ?_
   refine tR 2 rfl (tN ?_);exact tT (AS rfl ⟨_,fzO rfl⟩)
  ·rw [if_neg hg] at hT
   subst hT
   rw [show (tagP m a b (t.take (t.length - 16)) == t.drop (t.length - 16))=false from beq_eq_false_iff_ne.2 hg]
   refine AI (t:=true) rfl (fun _=>?_) (fun h=>nomatch h);refine tS (tO (tR 2 rfl (tN ?_)))
   exact tT (AS rfl ⟨_,fzO rfl⟩)
end Go.Eng.Ses
namespace Go.Eng.Ses
open Go Go.Eng
variable [Inhabited GlobT]
attribute [local irreducible] OpR TL TD TC TS Ak encP Bd Bz ctrP BL hmacP tagP
abbrev encK (k:List UInt8):List UInt8:=Bz (BL k encL 16)
abbrev macK (k:List UInt8):List UInt8:=BL k macL 32
theorem sealR_ok (k s:List UInt8) (a b:BitVec 64) (hk:k.length≤64) (hs:s.length≤800000):Ak AP0 Aph [.str k,w64 a,w64 b,.str s] (.str (Bax (encK k) (macK k) a b s)):=by
 have he:=Apr k encL 16 (by omega) (by omega) (by omega) (by decide)
 have hm:=Apr k macL 32 (by omega) (by omega) (by omega) (by decide)
 have hc:=turn6_ok (BL k encL 16) s b (AgY _ _ _ (by omega)) (by omega)
 have hml:=AgY k macL 32 (by omega)
 have hT:Bax (encK k) (macK k) a b s=ctrP (encK k) b s++tagP (macK k) a b (ctrP (encK k) b s):=rfl
 rw [hT]
 have hCl:=ArK (encK k) b s
 have hh:=Azv a b
 unfold encK macK at *
 generalize BL k macL 32=M at *
 generalize BL k encL 16=E at *
 generalize ctrP (Bz E) b s=C at *
 have hsu:=BcD M (Bd a 8++Bd b 8++C) (by omega) (by simp;omega)
 have ht:(hmacP M (Bd a 8++Bd b 8++C)).take 16=tagP M a b C:=by unfold tagP;rfl
 have hhl:=Aem M (Bd a 8++Bd b 8++C)
 rw [←ht]
 generalize hmacP M (Bd a 8++Bd b 8++C)=H at *
 refine Al (af:=Ake) rfl rfl ?_
 refine tS (tO (tR 1 rfl (tN (tS (tO (tR 1 rfl ?_))))))
 refine tC rfl rfl (he) rfl rfl rfl rfl rfl rfl ?_;refine tR 2 rfl ?_;refine tC rfl rfl (hc) rfl rfl rfl rfl rfl rfl ?_
 refine tR 1 rfl (tN (tS (tO (tR 2 rfl ?_))))
 refine tC rfl rfl (hm) rfl rfl rfl rfl rfl rfl ?_;refine tR 2 rfl ?_;refine tC rfl rfl (hh) rfl rfl rfl rfl rfl rfl ?_
 refine tR 1 rfl ?_;refine tP (Afd rfl rfl (by simp;omega)) rfl rfl rfl rfl ?_;refine tC rfl rfl (hsu) rfl rfl rfl rfl rfl rfl ?_
 refine tP (Agi rfl rfl (by simp;omega)) rfl rfl rfl rfl ?_;refine tP (Afd rfl rfl (by simp;omega)) rfl rfl rfl rfl ?_
 refine tR 1 rfl (tN ?_);exact tT (AS rfl ⟨_,fzO rfl⟩)
end Go.Eng.Ses
namespace Go.Eng.Ses
open Go Go.Eng
variable [Inhabited GlobT]
def u64?:Zv→Option (BitVec 64)
 | .int .u64 n=>if 0≤n∧n<18446744073709551616 then some (BitVec.ofNat 64 n.toNat) else none
 | _=>none
theorem u64?_spec {v:Zv} {x:BitVec 64} (h:u64? v=some x):v=w64 x:=by
 unfold u64? at h
 split at h
 ·rename_i n
  split at h
  ·rename_i hn
   cases h
   have:((BitVec.ofNat 64 n.toNat).toNat:Int)=n:=by
    rw [BitVec.toNat_ofNat,Nat.mod_eq_of_lt (by omega)];omega
   show Zv.int .u64 n = .int .u64 _
   rw [this]
  ·cases h
 ·cases h
def bytes?:List Zv→Option (List UInt8)
 | []=>some []
 | .int .u8 n::r=>if 0≤n∧n<256 then (bytes? r).map (UInt8.ofNat n.toNat::·) else none
 | _=>none
theorem bytes?_spec:∀ {l:List Zv} {bs:List UInt8},bytes? l=some bs→l=bs.map g8
 | [],bs,h=>by simp only [bytes?] at h;cases h;rfl
 | v::r,bs,h=>by
   unfold bytes? at h
   split at h
   ·rename_i he;cases he
   ·rename_i n r' he
    cases he
    split at h
    ·rename_i hn
     cases hr:bytes? r with
     | none=>rw [hr] at h;cases h
     | some b =>
       rw [hr] at h
       cases h
       have:((UInt8.ofNat n.toNat).toNat:Int)=n:=by
        rw [show (UInt8.ofNat n.toNat).toNat=n.toNat%256 from UInt8.toNat_ofNat',Nat.mod_eq_of_lt (by omega)];omega
       rw [bytes?_spec hr,List.map_cons]
       show Zv.int .u8 n::_ = .int .u8 _::_
       rw [this]
    ·cases h
   ·cases h
def key?:List Zv→Option (List UInt8)
 | .bool true::r=>match bytes? r with
   | some bs=>if bs.length=432∧bs.drop 176=boxL then some (bs.take 176) else none
   | none=>none
 | _=>none
theorem key?_spec {l:List Zv} {W:List UInt8} (h:key? l=some W):l=keyC W∧W.length=176:=by
 unfold key? at h
 split at h
 ·rename_i r
  split at h
  ·rename_i bs hb
   split at h
   ·rename_i hc
    cases h
    refine⟨?_,by simp [hc.1]⟩
    rw [keyC,←hc.2,List.take_append_drop,bytes?_spec hb]
   ·cases h
  ·cases h
 ·cases h
def box?:List Zv→Option (List UInt8 × List UInt8)
 | .bool true::r=>match key? (r.take 433),r.drop 433 with
   | some W,[.str m]=>if m.length=32 then some (W,m) else none
   | _,_=>none
 | _=>none
theorem box?_spec {l:List Zv} {W m:List UInt8} (h:box? l=some (W,m)):l=sealC W m∧W.length=176∧m.length=32:=by
 unfold box? at h
 split at h
 ·rename_i r
  split at h
  ·rename_i W' m' h1 h2
   split at h
   ·rename_i hm
    cases h
    obtain⟨k1,k2⟩:=key?_spec h1
    refine⟨?_,k2,hm⟩
    rw [sealC,←k1,←h2,List.take_append_drop]
   ·cases h
  ·cases h
 ·cases h
def strs?:List (List Zv)→Option (List (List UInt8))
 | []=>some []
 | [.str s]::r=>(strs? r).map (s::·)
 | _=>none
theorem strs?_spec:∀ {l:List (List Zv)} {ss:List (List UInt8)},strs? l=some ss→l=ss.map fun s=>[.str s]
 | [],ss,h=>by simp only [strs?] at h;cases h;rfl
 | v::r,ss,h=>by
   unfold strs? at h
   split at h
   ·rename_i he;cases he
   ·rename_i s r' he
    cases he
    cases hr:strs? r with
    | none=>rw [hr] at h;cases h
    | some b =>
      rw [hr] at h
      cases h
      rw [strs?_spec hr,List.map_cons]
   ·cases h
def Bba:List Zv→Option Zv
 | [a,b]=>match u64? a,u64? b with
   | some x,some y=>some (.str (Bd x 8++Bd y 8))
   | _,_=>none
 | _=>none
def newG:List Zv→Option Zv
 | [.str k]=>if k≠[]∧k.length≤64 then some (.tuple [.agg (sealP k),n64 0]) else none
 | _=>none
def AyK:List Zv→Option Zv
 | [.str k,a,b,.str s]=>match u64? a,u64? b with
   | some x,some y=>if k.length≤64∧s.length≤800000 then some (.str (Bax (encK k) (macK k) x y s)) else none
   | _,_=>none
 | _=>none
def sealG:List Zv→Option Zv
 | [.agg B,a,b,.str s]=>match box? B,u64? a,u64? b with
   | some (W,m),some x,some y=>if s.length≤999000 then some (.str (Bax W m x y s)) else none
   | _,_,_=>none
 | _=>none
def openG:List Zv→Option Zv
 | [.agg B,a,b,.str s]=>match box? B,u64? a,u64? b with
   | some (W,m),some x,some y=>if s.length≤999000 then some (match openT W m x y s with | (p,e) => .tuple [.str p,n64 e]) else none
   | _,_,_=>none
 | _=>none
def akeyG:List Zv→Option Zv
 | [.str k]=>if k.length=16 then some (.tuple [.agg (keyC (Bz k)),n64 0]) else none
 | _=>none
def turnG:List Zv→Option Zv
 | [.agg K,a,.str s]=>match key? K,u64? a with
   | some W,some x=>if s.length<4294967296 then some (.str (ctrP W x s)) else none
   | _,_=>none
 | _=>none
def encG:List Zv→Option Zv
 | [.agg K,.agg b]=>match key? K,bytes? b with
   | some W,some bs=>if bs.length=16 then some (.agg ((encP W bs).map g8)) else none
   | _,_=>none
 | _=>none
def blockG:List Zv→Option Zv
 | [a,b]=>match u64? a,u64? b with
   | some x,some y=>some (.agg ((ctrB x y).map g8))
   | _,_=>none
 | _=>none
def hmacG:List Zv→Option Zv
 | [.str k,.imm rows]=>match strs? rows with
   | some ss=>if k.length≤1000000∧ss.length≤1000000∧ss.flatten.length≤999900 then some (.str (hmacP k ss.flatten)) else none
   | none=>none
 | _=>none
def textG:List Zv→Option Zv
 | [.imm rows]=>match strs? rows with
   | some ss=>if ss.length≤1000000∧ss.flatten.length≤1000000 then some (.str (shaP ss.flatten)) else none
   | none=>none
 | _=>none
theorem headG_ok (args:List Zv) (r:Zv) (h:Bba args=some r):Ak AP0 AgV args r:=by
 unfold Bba at h
 split at h
 ·split at h
  ·rename_i h1 h2
   cases h
   rw [u64?_spec h1,u64?_spec h2]
   exact head_ok _ _
  ·cases h
 ·cases h
theorem headRG_ok (args:List Zv) (r:Zv) (h:Bba args=some r):Ak AP0 Ajw args r:=by
 unfold Bba at h
 split at h
 ·split at h
  ·rename_i h1 h2
   cases h
   rw [u64?_spec h1,u64?_spec h2]
   exact Azv _ _
  ·cases h
 ·cases h
theorem newG_ok (args:List Zv) (r:Zv) (h:newG args=some r):Ak AP0 Ajv args r:=by
 unfold newG at h
 split at h
 ·split at h
  ·rename_i hc
   cases h
   exact AvL _ hc.1 hc.2
  ·cases h
 ·cases h
theorem Asr (args:List Zv) (r:Zv) (h:AyK args=some r):Ak AP0 Aph args r:=by
 unfold AyK at h
 split at h
 ·split at h
  ·rename_i h1 h2
   split at h
   ·rename_i hc
    cases h
    rw [u64?_spec h1,u64?_spec h2]
    exact sealR_ok _ _ _ _ hc.1 hc.2
   ·cases h
  ·cases h
 ·cases h
theorem sealG_ok (args:List Zv) (r:Zv) (h:sealG args=some r):Ak AP0 AfC args r:=by
 unfold sealG at h
 split at h
 ·split at h
  ·rename_i h0 h1 h2
   split at h
   ·rename_i hc
    cases h
    obtain⟨k1,k2,k3⟩:=box?_spec h0
    rw [k1,u64?_spec h1,u64?_spec h2]
    exact seal_ok _ _ _ _ _ k2 k3 hc
   ·cases h
  ·cases h
 ·cases h
theorem AyZ (args:List Zv) (r:Zv) (h:openG args=some r):Ak AP0 AfD args r:=by
 unfold openG at h
 split at h
 ·split at h
  ·rename_i h0 h1 h2
   split at h
   ·rename_i hc
    cases h
    obtain⟨k1,k2,k3⟩:=box?_spec h0
    rw [k1,u64?_spec h1,u64?_spec h2]
    exact open_ok _ _ _ _ _ k2 k3 hc
   ·cases h
  ·cases h
 ·cases h
theorem akeyG_ok (args:List Zv) (r:Zv) (h:akeyG args=some r):Ak AP0 AiE args r:=by
 unfold akeyG at h
 split at h
 ·split at h
  ·rename_i hc
   cases h
   exact new_ok _ hc
  ·cases h
 ·cases h
theorem turnG_ok (args:List Zv) (r:Zv) (h:turnG args=some r):Ak AP0 Agp args r:=by
 unfold turnG at h
 split at h
 ·split at h
  ·rename_i h0 h1
   split at h
   ·rename_i hc
    cases h
    obtain⟨k1,k2⟩:=key?_spec h0
    rw [k1,u64?_spec h1]
    exact Aht _ _ _ k2 hc
   ·cases h
  ·cases h
 ·cases h
theorem encG_ok (args:List Zv) (r:Zv) (h:encG args=some r):Ak AP0 Acf args r:=by
 unfold encG at h
 split at h
 ·split at h
  ·rename_i h0 h1
   split at h
   ·rename_i hc
    cases h
    obtain⟨k1,k2⟩:=key?_spec h0
    rw [k1,bytes?_spec h1]
    exact enc_ok _ _ k2 hc
   ·cases h
  ·cases h
 ·cases h
theorem blockG_ok (args:List Zv) (r:Zv) (h:blockG args=some r):Ak AP0 AeJ args r:=by
 unfold blockG at h
 split at h
 ·split at h
  ·rename_i h1 h2
   cases h
   rw [u64?_spec h1,u64?_spec h2]
   exact AkP _ _
  ·cases h
 ·cases h
theorem hmacG_ok (args:List Zv) (r:Zv) (h:hmacG args=some r):Ak AP0 Ago args r:=by
 unfold hmacG at h
 split at h
 ·split at h
  ·rename_i h1
   split at h
   ·rename_i hc
    cases h
    rw [strs?_spec h1]
    exact Awq _ _ hc.1 hc.2.1 hc.2.2
   ·cases h
  ·cases h
 ·cases h
theorem textG_ok (args:List Zv) (r:Zv) (h:textG args=some r):Ak AP0 Aeq args r:=by
 unfold textG at h
 split at h
 ·split at h
  ·rename_i h1
   split at h
   ·rename_i hc
    cases h
    rw [strs?_spec h1]
    exact ApH _ hc.1 hc.2
   ·cases h
  ·cases h
 ·cases h
end Go.Eng.Ses
