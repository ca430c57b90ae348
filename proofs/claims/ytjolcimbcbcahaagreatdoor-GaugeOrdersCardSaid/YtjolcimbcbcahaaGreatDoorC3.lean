/- The block cipher is proved; no condition. -/
import Derived.Test.YtjolcimbcbcahaaGreatDoorC2
set_option linter.unusedSectionVars false
set_option linter.unusedVariables false
set_option linter.unusedSimpArgs false
set_option linter.unnecessarySimpa false
namespace Go.Eng.Ses
open Go Go.Eng
variable [Inhabited GlobT]
attribute [local irreducible] OpR TL TD TC TS Ak
theorem AzX (x:BitVec 8):((x.toNat:Int)=1)↔x=1#8 :=
 ⟨fun h=>BitVec.eq_of_toNat_eq (by rw [show (1#8).toNat=1 from rfl];omega),fun h=>by rw [h];rfl⟩
def Aky:Nat→BitVec 8→BitVec 8→BitVec 8→BitVec 8
 | 0,p,_,_=>p
 | n+1,p,a,b=>Aky n (if b &&& 1#8=1#8 then p ^^^ a else p) (a <<< 1 ^^^ a >>> 7*27) (b >>> 1)
def timesP (a b:BitVec 8):BitVec 8:=Aky 8 0 a b
theorem AlI:∀ (n:Nat) (p a:BitVec 8),Aky n p a 0=p
 | 0,_,_=>rfl
 | n+1,p,a=>by
   rw [Aky,if_neg (by decide),show (0:BitVec 8) >>> 1=0 from rfl,AlI n]
theorem AhS (a b:BitVec 8):Ak AP0 Ace [w8 a,w8 b] (w8 (timesP a b)):=by
 obtain⟨R,hR⟩:∃ R,timesP a b=R:=⟨_,rfl⟩
 rw [hR]
 unfold timesP at hR
 refine Al (af:=AhH) rfl rfl ?_
 refine tS (tO (tR 1 rfl (tN (tS (tO (tR 1 rfl ?_))))))
 refine tN (tS ?_)
 refine tB (lST (σ:=Nat × BitVec 8 × BitVec 8 × BitVec 8) (fun s=>s.1) (fun s=>[(0,w8 s.2.2.1),(1,w8 s.2.2.2),(5,w8 s.2.1)])
  (fun s S=>s.2.2.2.toNat<2^s.1∧Aky s.1 s.2.1 s.2.2.1 s.2.2.2=R∧S=[]) (8,0,a,b) (by (repeat' (first | exact wN | refine wC rfl ?_))) ⟨b.isLt,hR,rfl⟩ ?_)
 rintro⟨n,p,a,b⟩ S ⟨hb,hr,rfl⟩
 dsimp only at *
 clear hR
 refine tS (tS (tO (tR 2 rfl (tN ?_))))
 refine tQ rfl decide_eq_true_iff (fun h=>tK ?_) (fun h=>tX ?_)
 ·obtain⟨n,rfl⟩:∃ k,n=k+1:=⟨n - 1,by
   cases n with
   | zero=>simp at hb;omega
   | succ n=>rfl⟩
  have hb2:(b >>> 1).toNat<2^n:=by
   rw [BitVec.toNat_ushiftRight,Nat.shiftRight_eq_div_pow]
   rw [Nat.pow_succ] at hb
   omega
  rw [Aky] at hr
  refine tS ?_;refine tB ?_;refine tS (tS (tO (tR 1 rfl ?_)))
  refine tP (oB rfl rfl (band_u8 _ (1#8))) rfl rfl rfl rfl ?_;refine tR 1 rfl (tN ?_)
  refine AhU [(0,w8 a),(1,w8 b),(5,w8 (if b &&& 1#8=1#8 then p ^^^ a else p))] [] ?_ ?_
  ·refine tQ rfl beq_iff_eq (fun h=>?_) (fun h=>tK ?_)
   ·rw [if_pos ((AzX _).1 h)]
    refine tO (tR 2 rfl ?_);refine tP (oB rfl rfl (AC _ _)) rfl rfl rfl rfl ?_;refine tR 1 rfl (tN ?_)
    exact⟨by (repeat' (first | exact wN | refine wC rfl ?_)),rfl⟩
   ·rw [if_neg (fun h2=>h ((AzX _).2 h2))]
    exact⟨by (repeat' (first | exact wN | refine wC rfl ?_)),rfl⟩
  refine tS (tO (tR 1 rfl ?_));refine tP (oB rfl rfl (Akp _ 7)) rfl rfl rfl rfl ?_;refine tR 1 rfl ?_
  refine tN (tO (tR 1 rfl ?_));refine tP (oB rfl rfl (Anu _ 1)) rfl rfl rfl rfl ?_;refine tR 1 rfl ?_
  refine tP (oB rfl rfl (bmul_u8 _ (27#8))) rfl rfl rfl rfl ?_;refine tP (oB rfl rfl (AC _ _)) rfl rfl rfl rfl ?_
  refine tR 1 rfl (tN (tO (tR 1 rfl ?_)));refine tP (oB rfl rfl (Akp _ 1)) rfl rfl rfl rfl ?_
  refine tR 1 rfl (tN ?_)
  exact⟨(n,_,_,_),Nat.lt_succ_self n,by (repeat' (first | exact wN | refine wC rfl ?_)),hb2,hr,rfl⟩
 ·have:b=0:=BitVec.eq_of_toNat_eq (by simp;omega)
  subst this
  rw [AlI] at hr
  subst hr
  refine tS (tO (tR 2 rfl (tN ?_)));exact tT (AS rfl ⟨_,fzO rfl⟩)
def rol8 (x:BitVec 8) (n:Nat):BitVec 8:=x <<< n ||| x >>> (8 - n)
theorem rol1 (x:BitVec 8):Ak AP0 Bi [w8 x,.int .i64 1] (w8 (rol8 x 1)):=by
 refine Al (af:=AR) rfl rfl ?_
 refine tS (tO (tR 1 rfl (tN (tS (tO (tR 1 rfl ?_))))))
 refine tP (Aml (r:=1) rfl (by decide)) rfl rfl rfl rfl ?_;refine tP (oB (v := .int .u64 1) rfl rfl rfl) rfl rfl rfl rfl ?_
 refine tR 1 rfl (tN (tS (tO (tR 2 rfl ?_))))
 refine tP (oB rfl rfl (Anu _ 1)) rfl rfl rfl rfl ?_;refine tR 2 rfl ?_
 refine tP (oB (v := .int .u64 7) rfl rfl rfl) rfl rfl rfl rfl ?_;refine tP (oB rfl rfl (Akp _ 7)) rfl rfl rfl rfl ?_
 refine tP (oB rfl rfl (Avy _ _)) rfl rfl rfl rfl ?_;refine tR 1 rfl (tN ?_);exact tT (AS rfl ⟨_,fzO rfl⟩)
theorem rol2 (x:BitVec 8):Ak AP0 Bi [w8 x,.int .i64 2] (w8 (rol8 x 2)):=by
 refine Al (af:=AR) rfl rfl ?_
 refine tS (tO (tR 1 rfl (tN (tS (tO (tR 1 rfl ?_))))))
 refine tP (Aml (r:=2) rfl (by decide)) rfl rfl rfl rfl ?_;refine tP (oB (v := .int .u64 2) rfl rfl rfl) rfl rfl rfl rfl ?_
 refine tR 1 rfl (tN (tS (tO (tR 2 rfl ?_))))
 refine tP (oB rfl rfl (Anu _ 2)) rfl rfl rfl rfl ?_;refine tR 2 rfl ?_
 refine tP (oB (v := .int .u64 6) rfl rfl rfl) rfl rfl rfl rfl ?_;refine tP (oB rfl rfl (Akp _ 6)) rfl rfl rfl rfl ?_
 refine tP (oB rfl rfl (Avy _ _)) rfl rfl rfl rfl ?_;refine tR 1 rfl (tN ?_);exact tT (AS rfl ⟨_,fzO rfl⟩)
theorem rol3 (x:BitVec 8):Ak AP0 Bi [w8 x,.int .i64 3] (w8 (rol8 x 3)):=by
 refine Al (af:=AR) rfl rfl ?_
 refine tS (tO (tR 1 rfl (tN (tS (tO (tR 1 rfl ?_))))))
 refine tP (Aml (r:=3) rfl (by decide)) rfl rfl rfl rfl ?_;refine tP (oB (v := .int .u64 3) rfl rfl rfl) rfl rfl rfl rfl ?_
 refine tR 1 rfl (tN (tS (tO (tR 2 rfl ?_))))
 refine tP (oB rfl rfl (Anu _ 3)) rfl rfl rfl rfl ?_;refine tR 2 rfl ?_
 refine tP (oB (v := .int .u64 5) rfl rfl rfl) rfl rfl rfl rfl ?_;refine tP (oB rfl rfl (Akp _ 5)) rfl rfl rfl rfl ?_
 refine tP (oB rfl rfl (Avy _ _)) rfl rfl rfl rfl ?_;refine tR 1 rfl (tN ?_);exact tT (AS rfl ⟨_,fzO rfl⟩)
theorem rol4 (x:BitVec 8):Ak AP0 Bi [w8 x,.int .i64 4] (w8 (rol8 x 4)):=by
 refine Al (af:=AR) rfl rfl ?_
 refine tS (tO (tR 1 rfl (tN (tS (tO (tR 1 rfl ?_))))))
 refine tP (Aml (r:=4) rfl (by decide)) rfl rfl rfl rfl ?_;refine tP (oB (v := .int .u64 4) rfl rfl rfl) rfl rfl rfl rfl ?_
 refine tR 1 rfl (tN (tS (tO (tR 2 rfl ?_))))
 refine tP (oB rfl rfl (Anu _ 4)) rfl rfl rfl rfl ?_;refine tR 2 rfl ?_
 refine tP (oB (v := .int .u64 4) rfl rfl rfl) rfl rfl rfl rfl ?_;refine tP (oB rfl rfl (Akp _ 4)) rfl rfl rfl rfl ?_
 refine tP (oB rfl rfl (Avy _ _)) rfl rfl rfl rfl ?_;refine tR 1 rfl (tN ?_);exact tT (AS rfl ⟨_,fzO rfl⟩)
def boxC (q:BitVec 8):BitVec 8:=q ^^^ rol8 q 1 ^^^ rol8 q 2 ^^^ rol8 q 3 ^^^ rol8 q 4
def boxT (s:BitVec 8 × BitVec 8 × List UInt8):BitVec 8 × BitVec 8 × List UInt8 :=
 let p:=timesP s.1 3
 let q:=timesP s.2.1 0xf6
 (p,q,s.2.2.set p.toNat (UInt8.ofBitVec (boxC q ^^^ 0x63)))
def boxS:Nat→BitVec 8 × BitVec 8 × List UInt8
 | 0=>(1,1,(List.replicate 256 (0:UInt8)).set 0 0x63)
 | k+1=>boxT (boxS k)
theorem ArT:∀ k,(boxS k).2.2.length=256
 | 0=>by simp only [boxS,List.length_set,List.length_replicate]
 | k+1=>by simp only [boxS,boxT,List.length_set];exact ArT k
def orbit:Nat→BitVec 8→List (BitVec 8)
 | 0,_=>[]
 | n+1,p=>timesP p 3::orbit n (timesP p 3)
theorem Apx:∀ (n k j:Nat),j<n→(orbit n (boxS k).1)[j]?=some (boxS (k+j+1)).1
 | 0,_,_,h=>by omega
 | n+1,k,0,_=>rfl
 | n+1,k,j+1,h=>by
   have:=Apx n (k+1) j (by omega)
   rw [show k+(j+1)+1=k+1+j+1 by omega]
   exact this
def AoU:List (BitVec 8)→Bool
 | []=>false
 | [p]=>p == 1
 | p::q::l=>p != 1 && AoU (q::l)
theorem orbit_ok:AoU (orbit 255 1)=true:=by kernel_rfl
theorem AsY:∀ (l:List (BitVec 8)),AoU l=true→∀ (j:Nat) (p:BitVec 8),l[j]?=some p→(p=1↔j+1=l.length)
 | [],h,_,_,_=>by cases h
 | [p],h,0,q,hq=>by simp at hq;subst hq;simpa [AoU] using h
 | [p],h,j+1,q,hq=>by simp at hq
 | p::q::l,h,0,r,hr=>by
   simp at hr;subst hr
   simp [AoU] at h
   simp [h.1]
 | p::q::l,h,j+1,r,hr=>by
   simp only [AoU,Bool.and_eq_true] at h
   have:=AsY (q::l) h.2 j r (by simpa using hr)
   rw [this];simp
theorem AsF:∀ n p,(orbit n p).length=n
 | 0,_=>rfl
 | n+1,p=>by simp [orbit,AsF n]
theorem boxS_one (k:Nat) (h:k<255):(boxS (k+1)).1=1↔k=254:=by
 have h1:=Apx 255 0 k h
 have h2:=AsY _ orbit_ok k _ h1
 rw [AsF] at h2
 rw [show 0+k+1=k+1 by omega] at h2
 rw [h2];omega
def boxL:List UInt8:=(boxS 255).2.2
theorem AdO:boxL.length=256:=ArT 255
attribute [local irreducible] timesP rol8
set_option maxRecDepth 10000 in
set_option maxHeartbeats 4000000 in
theorem box_ok:Ak AP0 AtO [] (.agg (boxL.map g8)):=by
 have hfin:boxL=(boxS 255).2.2:=rfl
 rw [hfin]
 clear hfin
 have hs:∀ k,boxS (k+1)=boxT (boxS k):=fun _=>rfl
 have h0:boxS 0=(1,1,(List.replicate 256 (0:UInt8)).set 0 0x63):=rfl
 have hl:=ArT
 have h1:=boxS_one
 generalize boxS=st at hs h0 hl h1 ⊢
 refine Al (af:=Ans) rfl rfl ?_
 refine tS (tO (tR 1 rfl (tN (tS (tO (tR 1 rfl ?_))))))
 refine tN (tS (tO (tR 2 rfl (tN (tS (tO ?_))))))
 refine tR 2 rfl (tN (tS (tK (tS ?_))))
 refine tB ?_
 refine(lST (σ:=Nat) (fun k=>255 - k) (fun k=>[(0,.ptr 0 0 0),(1,.ptr 1 0 0),(2,w8 (st k).1),(3,w8 (st k).2.1)])
  (fun k S=>k<255∧S=[some ⟨256,[zs .u8 256]⟩,some ⟨256,[(st k).2.2.map g8]⟩]) 0 (by rw [h0];(repeat' (first | exact wN | refine wC rfl ?_))) ⟨by decide,by rw [h0];rfl⟩ ?_)
 rintro k S ⟨hk,rfl⟩
 have hlk:=hl k
 refine tB ?_
 refine tS (tO (tR 1 rfl ?_));refine tC rfl rfl (AhS _ 3) rfl rfl rfl rfl rfl rfl ?_;refine tR 1 rfl ?_
 refine tN (tS (tO (tR 1 rfl ?_)));refine tC rfl rfl (AhS _ 0xf6) rfl rfl rfl rfl rfl rfl ?_
 refine tR 1 rfl (tN (tS (tO (tR 2 rfl (tN (tS ?_))))))
 refine tS (tO (tR 1 rfl (tN ?_)))
 refine tB (Aal ?_)
 refine tS (tS (tO (tR 2 rfl (tN ?_))))
 refine AI (t:=true) rfl (fun _=>?_) (fun h=>nomatch h);refine tK (tS ?_);refine tB ?_;refine tO ?_
 refine tR 3 rfl ?_;refine tC rfl rfl (rol1 _) rfl rfl rfl rfl rfl rfl ?_;refine tP (oB rfl rfl (AC _ _)) rfl rfl rfl rfl ?_
 refine tR 1 rfl (tN (tO (tR 1 rfl ?_)))
 refine tP (oB (v := .int .i64 2) rfl rfl rfl) rfl rfl rfl rfl ?_;refine tR 1 rfl (tN ?_)
 refine Aal ?_
 refine tS (tS (tO (tR 2 rfl (tN ?_))))
 refine AI (t:=true) rfl (fun _=>?_) (fun h=>nomatch h);refine tK (tS ?_);refine tB ?_;refine tO ?_
 refine tR 3 rfl ?_;refine tC rfl rfl (rol2 _) rfl rfl rfl rfl rfl rfl ?_;refine tP (oB rfl rfl (AC _ _)) rfl rfl rfl rfl ?_
 refine tR 1 rfl (tN (tO (tR 1 rfl ?_)))
 refine tP (oB (v := .int .i64 3) rfl rfl rfl) rfl rfl rfl rfl ?_;refine tR 1 rfl (tN ?_)
 refine Aal ?_
 refine tS (tS (tO (tR 2 rfl (tN ?_))))
 refine AI (t:=true) rfl (fun _=>?_) (fun h=>nomatch h);refine tK (tS ?_);refine tB ?_;refine tO ?_
 refine tR 3 rfl ?_;refine tC rfl rfl (rol3 _) rfl rfl rfl rfl rfl rfl ?_;refine tP (oB rfl rfl (AC _ _)) rfl rfl rfl rfl ?_
 refine tR 1 rfl (tN (tO (tR 1 rfl ?_)))
 refine tP (oB (v := .int .i64 4) rfl rfl rfl) rfl rfl rfl rfl ?_;refine tR 1 rfl (tN ?_)
 refine Aal ?_
 refine tS (tS (tO (tR 2 rfl (tN ?_))))
 refine AI (t:=true) rfl (fun _=>?_) (fun h=>nomatch h);refine tK (tS ?_);refine tB ?_;refine tO ?_
 refine tR 3 rfl ?_;refine tC rfl rfl (rol4 _) rfl rfl rfl rfl rfl rfl ?_;refine tP (oB rfl rfl (AC _ _)) rfl rfl rfl rfl ?_
 refine tR 1 rfl (tN (tO (tR 1 rfl ?_)))
 refine tP (oB (v := .int .i64 5) rfl rfl rfl) rfl rfl rfl rfl ?_;refine tR 1 rfl (tN ?_)
 refine Aal ?_
 refine tS (tS (tO (tR 2 rfl (tN ?_))))
 refine AI (t:=false) rfl (fun h=>nomatch h) (fun _=>?_);refine tX ?_;refine tS (tO (tR 2 rfl ?_))
 refine tP (oB rfl rfl (AC _ (99#8))) rfl rfl rfl rfl ?_;refine tP (AM rfl rfl (by omega)) rfl rfl rfl rfl ?_
 refine tP (Bu rfl rfl rfl (by omega)) rfl rfl rfl rfl ?_;refine tN (tS (tO (tR 2 rfl ?_)))
 refine tN ?_
 refine tQ rfl beq_iff_eq (fun h=>?_) (fun h=>?_)
 ·have e:(boxT (st k)).1=1:=(AzX _).1 h
  rw [←hs] at e
  have:k=254:=(h1 k hk).1 e
  subst this
  have e255:st 255=boxT (st 254):=hs 254
  rw [e255]
  unfold boxT
  dsimp only
  refine tX ?_;refine tS (tO ?_);refine tP (oLW rfl rfl (by simp;omega)) rfl rfl rfl rfl ?_
  refine tP (AL rfl rfl rfl (by simp) (by simp;omega) (aSm (fun _=>rfl) _)) rfl rfl rfl rfl ?_;refine tN ?_
  exact tT (Acr rfl rfl (by simp;omega) (cLm (fun _=>rfl) _))
 ·refine tK ?_
  refine⟨k+1,by omega,by rw [hs];(repeat' (first | exact wN | refine wC rfl ?_)),?_,by rw [hs];rfl⟩
  have:k≠254:=fun hk2=>by
   have:=(h1 k hk).2 hk2
   rw [hs] at this
   exact h ((AzX _).2 this)
  omega
end Go.Eng.Ses
namespace Go.Eng.Ses
open Go Go.Eng
variable [Inhabited GlobT]
attribute [local irreducible] OpR TL TD TC TS Ak timesP rol8 boxL
def bt (l:List UInt8) (i:Nat):BitVec 8:=(l.getD i 0).toBitVec
def addB (b w:List UInt8) (i:Nat):UInt8:=UInt8.ofBitVec (bt b i ^^^ bt w i)
def addP (b w:List UInt8):List UInt8:=(List.range 16).map (addB b w)
@[simp] theorem ArY (b w:List UInt8):(addP b w).length=16:=by simp [addP]
theorem addP_def (b w:List UInt8):(List.range 16).map (addB b w)=addP b w:=rfl
theorem Apz (b w:List UInt8) (hb:b.length=16) (hw:w.length=16):Ak AP0 AmJ [.agg (b.map g8),.agg (w.map g8)] (.agg ((addP b w).map g8)):=by
 have hl:=ArY b w
 refine Al (af:=Anq) rfl rfl ?_
 refine tS (tO ?_);refine AH (Aek rfl (by simp;omega)) rfl rfl rfl rfl ?_
 refine AH (Aek rfl (by simp;omega)) rfl rfl rfl rfl ?_;refine tR 1 rfl (tN (tS (tS ?_)))
 refine tO (tR 1 rfl (tN ?_))
 refine tB (lST (σ:=Nat) (fun i=>16 - i) (fun i=>[(2,.ptr 0 0 0),(3,.ptr 1 0 0),(4,.ptr 2 0 0),(6,n64 i)])
  (fun i S=>i≤16∧S=[some ⟨16,[(updA (addB b w) b i).map g8]⟩,some ⟨16,[w.map g8]⟩,some ⟨16,[zs .u8 16]⟩]) 0 (by (repeat' (first | exact wN | refine wC rfl ?_))) ⟨by omega,by rw [AlC];rfl⟩ ?_)
 rintro i S ⟨hi,rfl⟩
 refine tS (tO (tR 1 rfl (tN (tS ?_))))
 refine tQ rfl decide_eq_true_iff (fun h=>tK ?_) (fun h=>tX ?_)
 ·have hi':i<16:=by omega
  refine tS ?_;refine tB ?_;refine tS (tO (tR 2 rfl (tN ?_)));refine tD0 rfl ?_
  refine dR 1 rfl ?_;refine dP rfl rfl (AM rfl rfl (by omega)) ?_;refine dP rfl rfl (AN 0 rfl rfl (by simp;omega)) ?_
  refine dR 1 rfl ?_;refine dP rfl rfl (AM rfl rfl (by omega)) ?_;refine dP rfl rfl (AN 0 rfl rfl (by omega)) ?_
  refine dP rfl rfl (oB rfl rfl (AC _ _)) ?_;refine dP rfl rfl (AM rfl rfl (by omega)) ?_
  refine dP rfl rfl (Bu rfl rfl rfl (by simp;omega)) ?_;refine dN ?_;refine⟨rfl,?_⟩;refine tO ?_
  refine tP (oA (b:=1) rfl rfl (by omega)) rfl rfl rfl rfl ?_;refine tR 1 rfl (tN ?_)
  refine⟨i+1,by omega,by (repeat' (first | exact wN | refine wC rfl ?_)),by omega,?_⟩
  rw [←ApE (by omega),AlD (Nat.le_refl _) (by omega)]
  rfl
 ·have:i=16:=by omega
  subst this
  rw [AlE hb,addP_def]
  refine tS (tO (tR 2 rfl (tN ?_)));exact tT (AS rfl ⟨_,fzO rfl⟩)
def Bcp (b:List UInt8) (i:Nat):UInt8:=boxL.getD (bt b ((i+4*(i%4))%16)).toNat 0
def turnP (b:List UInt8):List UInt8:=(List.range 16).map (Bcp b)
@[simp] theorem Ash (b:List UInt8):(turnP b).length=16:=by simp [turnP]
theorem Bco (b:List UInt8):(List.range 16).map (Bcp b)=turnP b:=rfl
abbrev keyC (W:List UInt8):List Zv := .bool true::(W++boxL).map g8
theorem Asg (W b:List UInt8) (hW:W.length=176) (hb:b.length=16):Ak AP0 Afb [.rptr (keyC W),.agg (b.map g8)] (.agg ((turnP b).map g8)):=by
 have hl:=Ash b
 have hbox:=AdO
 refine Al (af:=AcM) rfl rfl ?_
 refine tS (tO ?_);refine AH (Aek rfl (by simp;omega)) rfl rfl rfl rfl ?_;refine tR 1 rfl (tN ?_)
 refine tS (tO (tR 1 rfl (tN (tS (tS (tO ?_))))))
 refine tR 1 rfl (tN ?_)
 refine tB (lST (σ:=Nat) (fun i=>16 - i) (fun i=>[(0,.rptr (keyC W)),(3,.ptr 0 0 0),(4,.ptr 1 0 0),(5,.ptr 2 0 0),(7,n64 i)])
  (fun i S=>i≤16∧S=[some ⟨16,[b.map g8]⟩,some ⟨16,[zs .u8 16]⟩,some ⟨16,[(fillA 0 (Bcp b) 16 i).map g8]⟩]) 0 (by (repeat' (first | exact wN | refine wC rfl ?_))) ⟨by omega,rfl⟩ ?_)
 rintro i S ⟨hi,rfl⟩
 refine tS (tO (tR 1 rfl (tN (tS ?_))))
 refine tQ rfl decide_eq_true_iff (fun h=>tK ?_) (fun h=>tX ?_)
 ·have hi':i<16:=by omega
  refine tS ?_;refine tB ?_;refine tS (tO (tR 2 rfl (tN ?_)));refine tD0 rfl ?_
  refine dR 4 rfl ?_;refine dP rfl rfl (Abh (b:=4) rfl rfl (by omega)) ?_;refine dP rfl rfl (AkF (a:=4) rfl rfl (by omega)) ?_
  refine dP rfl rfl (oA rfl rfl (by omega)) ?_;refine dP rfl rfl (Abh (b:=16) rfl rfl (by omega)) ?_
  refine dP rfl rfl (AM rfl rfl (by omega)) ?_;refine dP rfl rfl (AN 0 rfl rfl (by omega)) ?_;refine dR 2 rfl ?_
  refine dP rfl rfl (AsP rfl rfl (BitVec.isLt _)) ?_
  have hx:(b.getD ((i+4*(i%4))%16) 0).toNat<256:=UInt8.toNat_lt _
  refine dP rfl rfl (o_loadRC 176 0 rfl rfl (by simp only [List.length_append,hW,hbox];omega)) ?_
  have e:(W++boxL).getD (176+(b.getD ((i+4*(i%4))%16) 0).toNat) 0=Bcp b i:=by rw [←hW,Azw];rfl
  rw [e]
  refine dP rfl rfl (AM rfl rfl (by omega)) ?_;refine dP rfl rfl (Bu rfl rfl rfl (by simp;omega)) ?_;refine dN ?_
  refine⟨rfl,?_⟩;refine tO ?_;refine tP (oA (b:=1) rfl rfl (by omega)) rfl rfl rfl rfl ?_;refine tR 1 rfl (tN ?_)
  exact⟨i+1,by omega,by (repeat' (first | exact wN | refine wC rfl ?_)),by omega,by rw [←Bh hi'];rfl⟩
 ·have:i=16:=by omega
  subst this
  rw [Bw,Bco]
  refine tS (tO (tR 2 rfl (tN ?_)));exact tT (AS rfl ⟨_,fzO rfl⟩)
def mixB (b:List UInt8) (i:Nat):UInt8 :=
 let c:=i / 4*4
 UInt8.ofBitVec (timesP (bt b (c+(i+0)%4)) 2 ^^^ timesP (bt b (c+(i+1)%4)) 3 ^^^ bt b (c+(i+2)%4) ^^^ bt b (c+(i+3)%4))
def mixP (b:List UInt8):List UInt8:=(List.range 16).map (mixB b)
@[simp] theorem Azj (b:List UInt8):(mixP b).length=16:=by simp [mixP]
theorem mixP_def (b:List UInt8):(List.range 16).map (mixB b)=mixP b:=rfl
theorem BbW (b:List UInt8) (hb:b.length=16) (c i n:Nat) (hc:c+4≤16) (hi:i<16) (hn:n<4):Ak AP0 AiD [n64 n,.rptr (b.map g8),.rptr [n64 c],.rptr [n64 i]] (g8 (b.getD (c+(i+n)%4) 0)):=by
 refine Al (af:=AeR) rfl rfl ?_
 refine tS (tO (tR 1 rfl (tN (tS (tO (tR 3 rfl ?_))))))
 refine tP (oA rfl rfl (by omega)) rfl rfl rfl rfl ?_;refine tP (Abh (b:=4) rfl rfl (by omega)) rfl rfl rfl rfl ?_
 refine tP (oA rfl rfl (by omega)) rfl rfl rfl rfl ?_;refine tP (AsP rfl rfl (by omega)) rfl rfl rfl rfl ?_
 refine tP (Alm 0 rfl (by omega)) rfl rfl rfl rfl ?_;refine tR 1 rfl (tN ?_);exact tT (AS rfl ⟨_,fzO rfl⟩)
theorem andNot3 (i:Nat) (hi:i<16):abin .andNot (.int .i64 ((i:Nat):Int)) (.int .i64 3)=some (.int .i64 ((i / 4*4:Nat):Int)):=by
 have:i=0∨i=1∨i=2∨i=3∨i=4∨i=5∨i=6∨i=7∨i=8∨i=9∨i=10∨i=11∨i=12∨i=13∨i=14∨i=15:=by omega
 rcases this with rfl | rfl | rfl | rfl | rfl | rfl | rfl | rfl | rfl | rfl | rfl | rfl | rfl | rfl | rfl | rfl<;>rfl
theorem mixed_ok (b:List UInt8) (hb:b.length=16):Ak AP0 AmI [.agg (b.map g8)] (.agg ((mixP b).map g8)):=by
 have hl:=Azj b
 refine Al (af:=AhG) rfl rfl ?_
 refine tS (tO ?_);refine AH (Aek rfl (by simp;omega)) rfl rfl rfl rfl ?_;refine tR 1 rfl (tN ?_)
 refine tS (tO (tR 1 rfl (tN (tS (tS (tO ?_))))))
 refine tR 1 rfl (tN ?_)
 refine tB (lST (σ:=Nat) (fun i=>16 - i) (fun i=>[(1,.ptr 0 0 0),(2,.ptr 1 0 0),(3,.ptr 2 0 0),(7,n64 i)])
  (fun i S=>i≤16∧S[0]?=some (some ⟨16,[b.map g8]⟩)∧S[1]?=some (some ⟨16,[zs .u8 16]⟩)∧S[2]?=some (some ⟨16,[(fillA 0 (mixB b) 16 i).map g8]⟩)) 0 (by (repeat' (first | exact wN | refine wC rfl ?_))) ⟨by omega,rfl,rfl,rfl⟩ ?_)
 rintro i S ⟨hi,hS0,hS1,hS2⟩
 refine tS (tO (tR 1 rfl (tN (tS ?_))))
 refine tQ rfl decide_eq_true_iff (fun h=>tK ?_) (fun h=>tX ?_)
 ·have hi':i<16:=by omega
  refine tS ?_;refine tB ?_;refine tS (tO (tR 1 rfl ?_));refine AcP rfl rfl ?_
  refine tP (Azd rfl rfl AW rfl) rfl rfl rfl rfl ?_;refine tN (tS (tO ?_))
  refine tP (BK rfl (Ax AW) rfl (Nat.le_of_ble_eq_true rfl) rfl) rfl rfl rfl rfl ?_
  refine tP (oB rfl rfl (andNot3 i hi')) rfl rfl rfl rfl ?_
  refine AcP rfl rfl ?_;refine tP (Azd rfl rfl AW rfl) rfl rfl rfl rfl ?_;refine tN (tS (tO ?_))
  refine tR 2 rfl (tN ?_);refine Adz [none,none,none,none] rfl ?_
  simp only [BN,List.length_cons,List.length_nil,Nat.zero_add]
  obtain⟨T,hT⟩:∃ T,S++[some ⟨1,[[Zv.int .i64 (i:Int)]]⟩]++[some ⟨1,[[Zv.int .i64 ((i / 4*4:Nat):Int)]]⟩]=T:=⟨_,rfl⟩
  have hn:(S++[some (⟨1,[[Zv.int .i64 (i:Int)]]⟩:ABlock)]).length=S.length+1:=by simp
  have g0:T[0]?=some (some ⟨16,[b.map g8]⟩):=by rw [←hT,List.append_assoc];exact AU hS0
  have g1:T[1]?=some (some ⟨16,[zs .u8 16]⟩):=by rw [←hT,List.append_assoc];exact AU hS1
  have g2:T[2]?=some (some ⟨16,[(fillA 0 (mixB b) 16 i).map g8]⟩):=by rw [←hT,List.append_assoc];exact AU hS2
  have g3:T[S.length]?=some (some ⟨1,[[Zv.int .i64 (i:Int)]]⟩):=by rw [←hT,List.append_assoc];simp
  have g4:T[S.length+1]?=some (some ⟨1,[[Zv.int .i64 ((i / 4*4:Nat):Int)]]⟩):=by rw [←hT,List.append_assoc];simp
  rw [hT,hn]
  generalize S.length=k at g3 g4 ⊢
  have hc:i / 4*4+4≤16:=by omega
  obtain⟨U,hU⟩:∃ U,T++[none,none,none,none]=U:=⟨_,rfl⟩
  replace g0:=hU▸AU (r:=[none,none,none,none]) g0
  replace g1:=hU▸AU (r:=[none,none,none,none]) g1
  replace g2:=hU▸AU (r:=[none,none,none,none]) g2
  replace g3:=hU▸AU (r:=[none,none,none,none]) g3
  replace g4:=hU▸AU (r:=[none,none,none,none]) g4
  have fz:∀ n:Nat,(RM.mapL (frzP Az) [n64 n,.ptr 0 0 0,.ptr (k+1) 0 0,.ptr k 0 0]).run U=some ([n64 n,.rptr (b.map g8),.rptr [n64 (i / 4*4)],.rptr [n64 i]],[0,k+1,k]):=fun n =>
   Agm (frzPI_ok rfl) (Agm (Amt g0 rfl (cLm (fun _=>rfl) b)) (Agm (Amt g4 rfl rfl) (Agm (Amt g3 rfl rfl) frzPI_nil)))
  show TD _ _ _ _ (T++[none,none,none,none]) _
  rw [hU]
  refine dP rfl rfl (BK rfl g3 (r:=[n64 i]) rfl (Nat.le_refl _) rfl) ?_
  refine dR 1 rfl ?_
  refine AhT rfl rfl (fz 0) (BbW b hb _ i 0 hc hi' (by omega)) rfl rfl rfl rfl rfl ?_
  refine AF rfl rfl (AhS _ 2) rfl rfl rfl rfl rfl ?_;refine dR 1 rfl ?_
  refine AhT rfl rfl (fz 1) (BbW b hb _ i 1 hc hi' (by omega)) rfl rfl rfl rfl rfl ?_
  refine AF rfl rfl (AhS _ 3) rfl rfl rfl rfl rfl ?_;refine dP rfl rfl (oB rfl rfl (AC _ _)) ?_;refine dR 1 rfl ?_
  refine AhT rfl rfl (fz 2) (BbW b hb _ i 2 hc hi' (by omega)) rfl rfl rfl rfl rfl ?_
  refine dP rfl rfl (oB rfl rfl (AC _ _)) ?_;refine dR 1 rfl ?_
  refine AhT rfl rfl (fz 3) (BbW b hb _ i 3 hc hi' (by omega)) rfl rfl rfl rfl rfl ?_
  refine dP rfl rfl (oB rfl rfl (AC _ _)) ?_;refine dP rfl rfl (AM rfl rfl (by omega)) ?_
  refine dP rfl rfl (Bu rfl rfl g2 (by simp;omega)) ?_;refine dN ?_;refine⟨rfl,?_⟩;refine tO ?_
  refine tP (oA (b:=1) rfl rfl (by omega)) rfl rfl rfl rfl ?_;refine tR 1 rfl (tN ?_)
  refine⟨i+1,by omega,by (repeat' (first | exact wN | refine wC rfl ?_)),by omega,Aw (by decide) g0,Aw (by decide) g1,?_⟩
  rw [←Bh hi'];exact Ax g2
 ·have:i=16:=by omega
  subst this
  rw [Bw,mixP_def] at hS2
  have e:∀ r:List Zv,r.length=16→List.take 0 (zs .u8 16)++Bn (Zv.agg (List.take 16 (List.drop 0 r)))++List.drop (0+16) (zs .u8 16)=r:=by
   intro r hr
   rw [show List.drop (0+16) (zs .u8 16)=[] from rfl,List.append_nil,List.drop_zero,←hr,List.take_length];rfl
  refine tS (tO ?_);refine tP (BK rfl hS2 rfl (Nat.le_of_ble_eq_true rfl) rfl) rfl rfl rfl rfl ?_
  refine tP (AdT rfl rfl hS1 rfl rfl rfl rfl (Nat.le_of_ble_eq_true rfl) rfl) rfl rfl rfl rfl ?_;refine tN ?_
  refine tT (Acr (sz':=16) (r:=(mixP b).map g8) rfl ((Ax hS1).trans ?_) (by simp) (cLm (fun _=>rfl) _))
  show some (some (⟨16,[_]⟩:ABlock))=_
  rw [e _ (by simp)]
end Go.Eng.Ses
namespace Go.Eng.Ses
open Go Go.Eng
variable [Inhabited GlobT]
attribute [local irreducible] OpR TL TD TC TS Ak timesP rol8 boxL
theorem o_copyAC {AP:Aaa} {m:FM} {S:Ab} {slot:Nat} {l s:List UInt8} {c:Zv} (hc:An c=true) {sz b len:Nat} {x y:Ag} (hx:lo m x=some (.aview b 0 1 len 1)) (hy:lo m y=some (.str s)) (h1:S[b]?=some (some ⟨sz,[c::l.map g8]⟩)) (h2:len≤l.length) (h3:s.length≤len) :
 OpR AP m slot S (.copy 1 x y) (.int .i64 (s.length:Int)) (S.set b (some ⟨sz,[c::(s++l.drop s.length).map g8]⟩)) ([b],[b]) :=
 opr_w fun fr hfr q=>by
  have e1:((BH s).take s.length).flatten=s.map g8:=by
   rw [AcG,List.take_of_length_le (by simp)]
   exact AeS s
  have e2:min (BH s).length len=s.length:=by rw [AcG,List.length_map,Nat.min_eq_left h3]
  simp only [Av,sem,hfr.opd hx,hfr.opd hy,Bq,if_true,RM.bind,RM.run,h1,List.getElem?_cons_zero,e1,e2]
  have h4:(True∧True∧(s.map g8).length=s.length∧1+len≤(c::l.map g8).length∧(s.map g8).all An=true):=⟨trivial,trivial,by simp,by simp;omega,aSm (fun _=>rfl) _⟩
  rw [if_pos h4]
  simp only [RM.run,List.set_cons_zero,List.take_succ_cons,List.take_zero,Nat.add_comm 1 s.length,List.drop_succ_cons,List.cons_append,List.nil_append,List.map_append,List.map_drop]
def rowB (L:List UInt8) (rc:BitVec 8):Nat→UInt8
 | 0=>UInt8.ofBitVec (bt L 0 ^^^ bt boxL (bt L 13).toNat ^^^ rc)
 | 1=>UInt8.ofBitVec (bt L 1 ^^^ bt boxL (bt L 14).toNat)
 | 2=>UInt8.ofBitVec (bt L 2 ^^^ bt boxL (bt L 15).toNat)
 | 3=>UInt8.ofBitVec (bt L 3 ^^^ bt boxL (bt L 12).toNat)
 | n+4=>UInt8.ofBitVec (bt L (n+4) ^^^ (rowB L rc n).toBitVec)
def rowP (L:List UInt8) (rc:BitVec 8):List UInt8:=(List.range 16).map (rowB L rc)
def rcP:Nat→BitVec 8
 | 0=>1
 | j+1=>timesP (rcP j) 2
def rowsP (k:List UInt8):Nat→List UInt8
 | 0=>k
 | j+1=>rowP (rowsP k j) (rcP j)
theorem Asx (k:List UInt8) (hk:k.length=16):∀ j,(rowsP k j).length=16
 | 0=>hk
 | j+1=>by simp [rowsP,rowP]
def schB (k:List UInt8) (n:Nat):UInt8:=(rowsP k (n / 16)).getD (n%16) 0
def Bz (k:List UInt8):List UInt8:=(List.range 176).map (schB k)
@[simp] theorem AyO (k:List UInt8):(Bz k).length=176:=by simp [Bz]
theorem schP_def (k:List UInt8):(List.range 176).map (schB k)=Bz k:=rfl
theorem AgH (k:List UInt8) (j i:Nat) (hi:i<16):schB k (16*j+i)=(rowsP k j).getD i 0:=by
 unfold schB
 rw [show (16*j+i) / 16=j by omega,show (16*j+i)%16=i by omega]
theorem AhY (k:List UInt8) (j i:Nat) (hi:i<16):schB k (16*(j+1)+i)=rowB (rowsP k j) (rcP j) i:=by
 rw [AgH k _ _ hi,rowsP,rowP,AX hi]
theorem Bbg (k:List UInt8) (hk:k.length=16) (j n:Nat) (h:16*(j+1)≤n) (hn:n≤176):((fillA 0 (schB k) 176 n).drop (16*j)).take 16=rowsP k j:=by
 have hl:=Asx k hk j
 apply List.ext_getElem?
 intro i
 by_cases hi:i<16
 ·have e:(fillA 0 (schB k) 176 n).getD (16*j+i) 0=schB k (16*j+i):=AaM (by omega)
  rw [List.getElem?_take,if_pos hi,List.getElem?_drop,AcU (d:=0) (by simp;omega),e,AgH k j i hi,AcU (d:=0) (by omega)]
 ·rw [List.getElem?_eq_none (by simp;omega),List.getElem?_eq_none (by omega)]
set_option maxRecDepth 10000 in
theorem key_build (bx:List UInt8) (hb:bx.length=256):Bbh ([(.bool false)]++zs .u8 432) [((0,1),.bool true),((177,256),.agg (bx.map g8))]=some (.bool true::(fillA 0 (fun _=>0) 176 0++bx).map g8):=by
 rw [Als]
 have e:([Zv.bool false]++zs .u8 432)=[Zv.bool false]++(List.replicate 176 (g8 0)++List.replicate 256 (g8 0)):=rfl
 rw [e]
 simp only [BB,Bn,Bg,List.length_map,hb]
 rw [if_pos ⟨rfl,rfl,by simp⟩,if_pos ⟨trivial,trivial,by simp⟩]
 simp [fillA]
end Go.Eng.Ses
namespace Go.Eng.Ses
open Go Go.Eng
variable [Inhabited GlobT]
attribute [local irreducible] OpR TL TD TC TS Ak timesP rol8 boxL
theorem BaW {m:FM} {S:Ab} {t sz b sz':Nat} {r:List Zv} (h:lkp m t=some (.ptr b 0 0)) (h1:S[b]?=some (some ⟨sz',[r]⟩)) (h2:r.length=sz):AnF m S (.cell t true sz)=some (.agg r):=by
 subst h2
 simp only [AnF,h,sem,RM.run,h1,List.getElem?_cons_zero,Nat.zero_add,Nat.le_refl,if_true,Eff.o,Abe,List.drop_zero,List.take_length]
theorem Aig {m:FM} {S:Ab} {t u sz b sz':Nat} {r:List Zv} {v:Zv} (h:lkp m t=some (.ptr b 0 0)) (h1:S[b]?=some (some ⟨sz',[r]⟩)) (h2:r.length=sz) (h3:Aj r=true) (hu:lkp m u=some v) (hv:v.closed=true) :
 (Bx.ret = .normal∨Bx.ret = .ret)∧∃ vs ids,Abx m S [.cell t true sz,.tmp u]=some vs∧(frz Az (one vs)).run S=some (.tuple [.agg r,v],ids):=by
 refine AS (vs:=[.agg r,v]) ?_ ⟨_,fzO (by simp only [one,Zv.closed,Aj,h3,hv,Bool.and_self])⟩
 have e:=BaW h h1 h2
 have e2:Abx m S [.tmp u]=some [v]:=by simp only [Abx,AnF,hu]
 rw [Abx,e,e2]
theorem Aec {AP:Aaa} {N:Nat} {d:Option Nat} {row row':List Zv} {sz:Nat} {un:List Nat} {l:List Ae} {m:FM} {S:Ab} {K:FM→Ab→Prop} (he:row=row') (hz:row'.length=sz) (hd:(d.all fun d=>d<N)=true)
 (hk:TL AP N l (putM m d (.ptr S.length 0 0)) (S++[some ⟨sz,[row']⟩]) K):TL AP N (⟨d,.alloc row,none,un⟩::l) m S K:=by
 subst he
 exact AcP hz hd hk
theorem AcT (W:List UInt8) (hW:W.length=176):(keyC W).length=433:=by simp [keyC,hW,AdO]
theorem Afy (W:List UInt8):(keyC W).all An=true:=by simp [keyC,An]
theorem fill_copy (k:List UInt8) (hk:k.length=16) (bx:List UInt8):k++(fillA 0 (fun _=>0) 176 0++bx).drop k.length=fillA 0 (schB k) 176 16++bx:=by
 have e:(List.range 16).map (schB k)=k:=by
  apply List.ext_getElem?
  intro i
  by_cases hi:i<16
  ·rw [AcU (d:=0) (by simpa using hi),AX hi,AcU (d:=0) (by omega)]
   have:=AgH k 0 i hi
   rw [show 16*0+i=i by omega] at this
   rw [this];rfl
  ·rw [List.getElem?_eq_none (by simp;omega),List.getElem?_eq_none (by omega)]
 simp only [fillA,e,hk,List.range_zero,List.map_nil,List.nil_append,Nat.sub_zero]
 rw [List.drop_append_of_le_length (by rw [List.length_replicate];omega),List.drop_replicate,List.append_assoc]
theorem AwH (k bx:List UInt8) (hk:k.length=16) (j n:Nat) (h:16*(j+1)≤n) (hn:n≤176):((fillA 0 (schB k) 176 n++bx).drop (16*j)).take 16=rowsP k j:=by
 rw [List.drop_append_of_le_length (by simp;omega),List.take_append_of_le_length (by simp;omega),Bbg k hk j n h hn]
theorem box_at (k bx:List UInt8) (n:Nat) (hn:n≤176) (x:Nat):(fillA 0 (schB k) 176 n++bx).getD (176+x) 0=bx.getD x 0:=by
 have e:(fillA 0 (schB k) 176 n).length=176:=by simp;omega
 have:=Azw (a:=fillA 0 (schB k) 176 n) (b:=bx) (n:=x) (d:=0)
 rwa [e] at this
theorem row_at (k bx:List UInt8) (n:Nat) (hn:n≤176) (j i:Nat) (hi:i<16) (h:16*(j+1)+i<n):(fillA 0 (schB k) 176 n++bx).getD (16*(j+1)+i) 0=rowB (rowsP k j) (rcP j) i:=by
 rw [Atg (by simp;omega),AaM h,AhY k j i hi]
theorem row_set (k bx:List UInt8) (j i:Nat) (hi:i<16) (hj:j<10) (v:UInt8) (hv:v=rowB (rowsP k j) (rcP j) i):(fillA 0 (schB k) 176 (16*(j+1)+i)++bx).set (16*(j+1)+i) v=fillA 0 (schB k) 176 (16*(j+1)+i+1)++bx:=by
 rw [List.set_append_left _ _ (by simp;omega),hv,←AhY k j i hi,Bh (by omega)]
theorem row0 (L:List UInt8) (rc:BitVec 8):UInt8.ofBitVec ((L.getD 0 0).toBitVec ^^^ (boxL.getD (L.getD 13 0).toNat 0).toBitVec ^^^ rc)=rowB L rc 0:=rfl
theorem row123 (L:List UInt8) (rc:BitVec 8) (i:Nat) (h0:0<i) (h4:i<4):UInt8.ofBitVec ((L.getD i 0).toBitVec ^^^ (boxL.getD (L.getD (12+(i+1)%4) 0).toNat 0).toBitVec)=rowB L rc i:=by
 obtain rfl | rfl | rfl:i=1∨i=2∨i=3:=by omega
 all_goals rfl
theorem row4 (L:List UInt8) (rc:BitVec 8) (i:Nat) (h4:4≤i):UInt8.ofBitVec ((L.getD i 0).toBitVec ^^^ (rowB L rc (i - 4)).toBitVec)=rowB L rc i:=by
 obtain⟨n,rfl⟩:∃ n,i=n+4:=⟨i - 4,by omega⟩
 rfl
set_option maxRecDepth 10000 in
set_option maxHeartbeats 2000000 in
theorem new_ok (k:List UInt8) (hk:k.length=16):Ak AP0 AiE [.str k] (.tuple [.agg (keyC (Bz k)),n64 0]):=by
 have hbox:=AdO
 refine Al (af:=Anr) rfl rfl ?_
 have hk':(k.length:Int)=16:=by omega
 obtain⟨Z,hZ⟩:∃ Z,[Zv.bool false]++zs .u8 432=Z:=⟨_,rfl⟩
 have hZl:Z.length=433:=by rw [←hZ];rfl
 refine tS (tO (Aec hZ hZl rfl ?_))
 refine tR 1 rfl (tN (tS (tS (tO (tR 3 rfl (tN ?_))))))
 refine tQ rfl bne_iff_ne (fun h=>absurd hk' h) (fun _=>tK ?_)
 refine tS (tO ?_)
 refine tC rfl rfl (box_ok) rfl rfl rfl rfl rfl rfl ?_
 refine tP (Aba rfl (key_build boxL hbox)) rfl rfl rfl rfl ?_
 refine Aec hZ hZl rfl ?_
 refine tP (AL rfl rfl rfl hZl (by simp [hbox]) (Afy (fillA 0 (fun _=>0) 176 0))) rfl rfl rfl rfl ?_
 refine tN (tS (tO (tR 4 rfl ?_)))
 refine tP (o_copyAC rfl rfl rfl rfl (by simp [hbox]) (by omega)) rfl rfl rfl rfl ?_
 rw [fill_copy k hk boxL]
 refine tN (tS (tO (tR 1 rfl (tN (tS (tS (tO ?_)))))))
 refine tR 1 rfl (tN ?_)
 refine tB (lST (σ:=Nat) (fun j=>10 - j) (fun j=>[(2,.ptr 0 0 0),(3,n64 0),(4,.ptr 1 0 0),(5,w8 (rcP j)),(6,n64 (j+1))])
  (fun j S=>j≤10∧S[0]?=some (some ⟨433,[Z]⟩)∧S[1]?=some (some ⟨433,[keyC (fillA 0 (schB k) 176 (16*(j+1)))]⟩)) 0 (by (repeat' (first | exact wN | refine wC rfl ?_))) ⟨by omega,rfl,rfl⟩ ?_)
 rintro j S ⟨hj,hS0,hS1⟩
 refine tS (tS (tO (tR 2 rfl (tN ?_))))
 refine tQ rfl decide_eq_true_iff (fun h=>tK ?_) (fun h=>tX ?_)
 ·have hj':j<10:=by omega
  refine tS ?_;refine tB ?_;refine tS ?_;refine Adz [none] rfl ?_;refine dR 1 rfl ?_
  refine dP rfl rfl (AaH (b:=1) rfl rfl (by omega) (by omega)) ?_;refine dR 1 rfl ?_;refine dP rfl rfl (Adf rfl rfl (by omega)) ?_
  refine dP rfl rfl (Aln (16*j) rfl (by omega) (AU hS1) (by simp;omega)) ?_
  rw [AwH k boxL hk j _ (by omega) (by omega)]
  generalize hL:rowsP k j=L
  have hLl:L.length=16:=by rw [←hL];exact Asx k hk j
  refine dR 2 rfl ?_;refine dP rfl rfl (Adf rfl rfl (by omega)) ?_;refine dP rfl rfl (Aqi) ?_
  refine dP rfl rfl (AL rfl rfl (Ax AW) (by simp) (by simp;omega) (aSm (fun _=>rfl) _)) ?_;refine dR 1 rfl ?_
  refine dN ?_
  have hq:∃ q,S.length=q+2:=⟨S.length - 2,by have:=(List.getElem?_eq_some_iff.1 hS1).1;omega⟩
  have hz:(zs .u8 16).length=16:=rfl
  obtain⟨q,hq⟩:=hq
  obtain⟨U,hU⟩:∃ U,S++[some ⟨16,[L.map g8]⟩]=U:=⟨_,rfl⟩
  have u0:=hU▸AU (r:=[some ⟨16,[L.map g8]⟩]) hS0
  have u1:=hU▸AU (r:=[some ⟨16,[L.map g8]⟩]) hS1
  have u2:U[S.length]?=some (some ⟨16,[L.map g8]⟩):=hU▸AW
  simp only [BN,hz,hU]
  rw [hq] at u2 ⊢
  clear hU hS0 hS1 hq
  refine⟨rfl,?_⟩
  refine tS (tS (tO (tR 1 rfl (tN ?_))))
  refine tB (lST (σ:=Nat) (fun i=>16 - i) (fun i=>[(2,.ptr 0 0 0),(3,n64 0),(4,.ptr 1 0 0),(5,w8 (rcP j)),(6,n64 (j+1)),(7,.ptr (q+2) 0 0),(8,.ptr 1 0 (1+(j+1)*16)),(33,n64 i)])
   (fun i S=>i≤16∧S[0]?=some (some ⟨433,[Z]⟩)∧S[1]?=some (some ⟨433,[keyC (fillA 0 (schB k) 176 (16*(j+1)+i))]⟩)∧S[q+2]?=some (some ⟨16,[L.map g8]⟩)) 0 (by (repeat' (first | exact wN | refine wC rfl ?_))) ⟨by omega,u0,u1,u2⟩ ?_)
  rintro i S ⟨hi,hS0,hS1,hS2⟩
  refine tS (tO (tR 1 rfl (tN (tS ?_))))
  refine tQ rfl decide_eq_true_iff (fun h=>tK ?_) (fun h=>tX ?_)
  ·have hi':i<16:=by omega
   have hlen:(fillA 0 (schB k) 176 (16*(j+1)+i)++boxL).length=432:=by simp [hbox];omega
   have hbx:∀ x,(fillA 0 (schB k) 176 (16*(j+1)+i)++boxL).getD (176+x) 0=boxL.getD x 0:=box_at k boxL _ (by omega)
   have hst:=row_set k boxL j i hi' hj'
   have hrow:=row_at k boxL (16*(j+1)+i) (by omega) j (i - 4) (by omega)
   rw [hL] at hst hrow
   unfold keyC at hS1
   generalize fillA 0 (schB k) 176 (16*(j+1)+i)++boxL=W at hlen hbx hst hrow hS1
   refine tS ?_;refine tB ?_;refine tS (tO (tR 2 rfl (tN ?_)));refine tB ?_;refine tS ?_
   refine tO (tR 3 rfl (tN ?_))
   refine tQ rfl beq_iff_eq (fun h0=>?_) (fun h0=>?_)
   ·have e:i=0:=by omega
    subst e
    have h13:=UInt8.toNat_lt (L.getD 13 0)
    refine tD0 rfl ?_;refine dR 4 rfl ?_;refine dP rfl rfl (AN 0 rfl hS2 (by omega)) ?_;refine dR 1 rfl ?_
    refine dP rfl rfl (AN 0 rfl hS2 (by omega)) ?_;refine dR 1 rfl ?_;refine dP rfl rfl (Adf rfl rfl (by assumption)) ?_
    refine dP rfl rfl (Awf (g:=g8) (176+(L.getD 13 0).toNat) 0 rfl (by show 0+177+(L.getD 13 0).toNat*1=_;omega) hS1 (by omega)) ?_
    rw [hbx]
    refine dP rfl rfl (oB rfl rfl (AC _ _)) ?_;refine dR 1 rfl ?_;refine dP rfl rfl (oB rfl rfl (AC _ _)) ?_
    refine dR 2 rfl ?_
    refine dP rfl rfl (Aqg (16*(j+1)+0) rfl (by show 1+(j+1)*16+0*1=_;omega) rfl hS1 (by omega)) ?_
    refine dN ?_;refine⟨rfl,?_⟩;refine tO ?_;refine tP (oB (v := .int .i64 1) rfl rfl rfl) rfl rfl rfl rfl ?_;refine tR 1 rfl ?_
    refine tN ?_
    refine⟨1,by omega,by (repeat' (first | exact wN | refine wC rfl ?_)),by omega,Aw (by decide) hS0,(Ax hS1).trans ?_,Aw (fun e=>nomatch e) hS2⟩
    rw [hst]
    exact row0 _ _
   ·refine tS (tO (tR 3 rfl (tN ?_)))
    refine tQ rfl decide_eq_true_iff (fun h4=>?_) (fun h4=>?_)
    ·have h13:=UInt8.toNat_lt (L.getD (12+(i+1)%4) 0)
     refine tD0 rfl ?_;refine dR 3 rfl ?_;refine dP rfl rfl (AM rfl rfl (by omega)) ?_
     refine dP rfl rfl (AN 0 rfl hS2 (by omega)) ?_;refine dR 1 rfl ?_;refine dP rfl rfl (oA (b:=1) rfl rfl (by omega)) ?_
     refine dP rfl rfl (Abh (b:=4) rfl rfl (by omega)) ?_;refine dP rfl rfl (oA (a:=12) rfl rfl (by omega)) ?_
     refine dP rfl rfl (AM rfl rfl (by omega)) ?_;refine dP rfl rfl (AN 0 rfl hS2 (by omega)) ?_;refine dR 1 rfl ?_
     refine dP rfl rfl (Adf rfl rfl (by omega)) ?_
     refine dP rfl rfl (Awf (g:=g8) (176+(L.getD (12+(i+1)%4) 0).toNat) 0 rfl (by omega) hS1 (by omega)) ?_
     rw [hbx]
     refine dP rfl rfl (oB rfl rfl (AC _ _)) ?_;refine dR 1 rfl ?_;refine dP rfl rfl (Adf rfl rfl (by omega)) ?_
     refine dP rfl rfl (Aqg (16*(j+1)+i) rfl (by omega) rfl hS1 (by omega)) ?_
     refine dN ?_;refine⟨rfl,?_⟩;refine tO ?_;refine tP (oA (b:=1) rfl rfl (by omega)) rfl rfl rfl rfl ?_;refine tR 1 rfl ?_
     refine tN ?_
     refine⟨i+1,by omega,by (repeat' (first | exact wN | refine wC rfl ?_)),by omega,Aw (by decide) hS0,(Ax hS1).trans ?_,Aw (fun e=>nomatch e) hS2⟩
     rw [hst _ (row123 _ _ i (by omega) (by omega))]
     rfl
    ·have h4':4≤i:=by omega
     refine tD0 rfl ?_;refine dR 3 rfl ?_;refine dP rfl rfl (AM rfl rfl (by omega)) ?_
     refine dP rfl rfl (AN 0 rfl hS2 (by omega)) ?_;refine dR 2 rfl ?_;refine dP rfl rfl (AaH (b:=4) rfl rfl (by omega) (by omega)) ?_
     refine dR 1 rfl ?_;refine dP rfl rfl (Adf rfl rfl (by omega)) ?_
     refine dP rfl rfl (Awf (g:=g8) (16*(j+1)+(i - 4)) 0 rfl (by omega) hS1 (by omega)) ?_
     rw [hrow (by omega)]
     refine dP rfl rfl (oB rfl rfl (AC _ _)) ?_;refine dR 1 rfl ?_;refine dP rfl rfl (Adf rfl rfl (by omega)) ?_
     refine dP rfl rfl (Aqg (16*(j+1)+i) rfl (by omega) rfl hS1 (by omega)) ?_
     refine dN ?_;refine⟨rfl,?_⟩;refine tO ?_;refine tP (oA (b:=1) rfl rfl (by omega)) rfl rfl rfl rfl ?_;refine tR 1 rfl ?_
     refine tN ?_
     refine⟨i+1,by omega,by (repeat' (first | exact wN | refine wC rfl ?_)),by omega,Aw (by decide) hS0,(Ax hS1).trans ?_,Aw (fun e=>nomatch e) hS2⟩
     rw [hst _ (row4 _ _ i h4')]
     rfl
  ·have:i=16:=by omega
   subst this
   refine tO (tR 1 rfl ?_);refine tC rfl rfl (AhS _ 2) rfl rfl rfl rfl rfl rfl ?_;refine tR 1 rfl (tN ?_)
   refine tO (tR 1 rfl ?_);refine tP (oA (b:=1) rfl rfl (by omega)) rfl rfl rfl rfl ?_;refine tR 1 rfl ?_
   refine tN ?_
   exact⟨j+1,by omega,by (repeat' (first | exact wN | refine wC rfl ?_)),by omega,hS0,hS1⟩
 ·have:j=10:=by omega
  subst this
  have hf:fillA 0 (schB k) 176 (16*(10+1))=Bz k:=by rw [←schP_def,←Bw]
  rw [hf] at hS1
  have hl:=AyO k
  generalize Bz k=W at hS1 hl ⊢
  have hkl:=AcT W hl
  have hks:=Afy W
  have hkc:Aj (keyC W)=true:=by simp only [keyC,Aj,Zv.closed,Bool.true_and];exact cLm (fun _=>rfl) _
  generalize keyC W=kc at hS1 hkl hks hkc ⊢
  refine tS (tO ?_)
  refine tP (oLW rfl hS1 hkl) rfl rfl rfl rfl ?_
  refine tP (AL rfl rfl hS0 hZl hkl hks) rfl rfl rfl rfl ?_
  refine tR 1 rfl (tN ?_)
  exact tT (Aig rfl (Ax hS0) hkl hkc rfl rfl)
end Go.Eng.Ses
namespace Go.Eng.Ses
open Go Go.Eng
variable [Inhabited GlobT]
attribute [local irreducible] OpR TL TD TC TS Ak timesP rol8 boxL addP turnP mixP
theorem Ajs (W:List UInt8):Aj (keyC W)=true:=by simp only [keyC,Aj,Zv.closed,Bool.true_and];exact cLm (fun _=>rfl) _
theorem keyC_nr (W:List UInt8):norefL [.agg (keyC W)]=true:=by
 simp only [norefL,Zv.noref,keyC,Bool.true_and,Bool.and_true];exact nLm (fun _=>rfl) _
theorem cl1 (a:List UInt8):Aj [.agg (a.map g8)]=true:=by
 have h:=cLm (g:=g8) (fun _=>rfl)
 simp only [Aj,Zv.closed,h,Bool.and_self]
theorem cl2 (a b:List UInt8):Aj [.agg (a.map g8),.agg (b.map g8)]=true:=by
 have h:=cLm (g:=g8) (fun _=>rfl)
 simp only [Aj,Zv.closed,h,Bool.and_self]
theorem nr1 {v:Zv} (a:List UInt8):(norefL [.agg (a.map g8)] || v.flat)=true:=by
 have h:=nLm (g:=g8) (fun _=>rfl)
 simp only [norefL,Zv.noref,h,Bool.and_self,Bool.true_or]
theorem nr2 {v:Zv} (a b:List UInt8):(norefL [.agg (a.map g8),.agg (b.map g8)] || v.flat)=true:=by
 have h:=nLm (g:=g8) (fun _=>rfl)
 simp only [norefL,Zv.noref,h,Bool.and_self,Bool.true_or]
theorem AtH {α:Type} {g:α→Zv} (h:∀ x,(g x).flat=true):∀ (l:List α),Aqu (l.map g)=true
 | []=>rfl
 | x::l=>by simp only [List.map_cons,Aqu,h x,AtH h l,Bool.and_self]
theorem nrf {vs:List Zv} (a:List UInt8):(norefL vs || (Zv.agg (a.map g8)).flat)=true:=by
 have h:=AtH (g:=g8) (fun _=>rfl) a
 simp only [Zv.flat,h,Bool.or_true]
theorem by1 (a:List UInt8):(Zv.agg (a.map g8)).closed=true:=by
 have h:=cLm (g:=g8) (fun _=>rfl)
 simp only [Zv.closed,h]
theorem keyC_hd (W:List UInt8):∃ r,keyC W = .bool true::r:=⟨_,rfl⟩
set_option maxRecDepth 10000 in
set_option maxHeartbeats 2000000 in
theorem Ase (W:List UInt8) (hW:W.length=176):Ak AP0 AfG [.agg (keyC W)] (.agg (keyC W)):=by
 have hkl:=AcT W hW
 have hks:=Afy W
 have hkc:=Ajs W
 obtain⟨r,hr⟩:=keyC_hd W
 generalize keyC W=kc at hr hkl hks hkc ⊢
 refine Al (af:=Adr) rfl rfl ?_
 obtain⟨Z,hZ⟩:∃ Z,[Zv.bool false]++zs .u8 432=Z:=⟨_,rfl⟩
 have hZl:Z.length=433:=by rw [←hZ];rfl
 refine tS (tO ?_)
 refine AH (Aek rfl hkl) rfl rfl rfl rfl ?_
 refine Aec hZ hZl rfl ?_
 subst hr
 refine tN (tS (tS (tO (tR 3 rfl (tN ?_)))))
 refine AI (t:=false) rfl (fun h=>nomatch h) (fun _=>?_);refine tK (tS (tO ?_))
 refine tP (oLW rfl rfl hkl) rfl rfl rfl rfl ?_
 refine tP (AL rfl rfl rfl hZl hkl hks) rfl rfl rfl rfl ?_
 refine tN (tT (Acr rfl rfl hkl hkc))
def blkP (W:List UInt8) (r:Nat):List UInt8:=(W.drop (16*r)).take 16
theorem Bad (W:List UInt8) (hW:W.length=176) (r:Nat) (hr:r≤10):(blkP W r).length=16:=by simp [blkP,hW];omega
def encS (W b:List UInt8):Nat→List UInt8
 | 0=>addP b (blkP W 0)
 | r+1=>addP (if r+1<10 then mixP (turnP (encS W b r)) else turnP (encS W b r)) (blkP W (r+1))
def encP (W b:List UInt8):List UInt8:=encS W b 10
theorem Aqx (W b:List UInt8):∀ r,(encS W b r).length=16
 | 0=>ArY _ _
 | r+1=>ArY _ _
theorem Ayn (W bx:List UInt8) (hW:W.length=176) (r:Nat) (hr:r≤10):((W++bx).drop (16*r)).take 16=blkP W r:=by
 rw [List.drop_append_of_le_length (by omega),List.take_append_of_le_length (by simp;omega)];rfl
set_option maxRecDepth 10000 in
set_option maxHeartbeats 2000000 in
theorem enc_ok (W b:List UInt8) (hW:W.length=176) (hb:b.length=16):Ak AP0 Acf [.agg (keyC W),.agg (b.map g8)] (.agg ((encP W b).map g8)):=by
 have hkl:=AcT W hW
 have hks:=Afy W
 have hkc:=Ajs W
 have hbox:=AdO
 have hwh:=Ase W hW
 have htu:=Asg W
 refine Al (af:=Ack) rfl rfl ?_
 refine tS (tO ?_)
 refine AH (Aek rfl hkl) rfl rfl rfl rfl ?_
 refine AH (Aek rfl (by simp;omega)) rfl rfl rfl rfl ?_;refine tR 1 rfl (tN (tS (tO ?_)))
 refine tP (oLW rfl rfl (by simp;omega)) rfl rfl rfl rfl ?_
 refine tC rfl (by rw [Aj,Zv.closed,hkc];rfl) hwh (by rw [keyC_nr,Bool.true_or]) rfl rfl rfl rfl rfl ?_
 refine tP (AL rfl rfl rfl hkl hkl hks) rfl rfl rfl rfl ?_
 refine tN (tS (tO ?_));refine tP (oLW rfl rfl (by simp;omega)) rfl rfl rfl rfl ?_;refine tR 2 rfl ?_
 refine tP (Aln 0 rfl rfl rfl (by simp;omega)) rfl rfl rfl rfl ?_
 rw [show (List.drop 0 (W++boxL)).take 16=blkP W 0 from Ayn W boxL hW 0 (by omega)]
 refine tC rfl (cl2 _ _) (Apz b _ hb (Bad W hW 0 (by omega))) (nr2 _ _) rfl rfl rfl rfl rfl ?_
 refine tP (AL rfl rfl rfl (by simp [hb]) (by simp) (aSm (fun _=>rfl) _)) rfl rfl rfl rfl ?_
 refine tN (tS (tS (tO (tR 1 rfl (tN ?_)))))
 refine tB (lST (σ:=Nat) (fun r=>10 - r) (fun r=>[(2,.ptr 0 0 0),(3,.ptr 1 0 0),(4,.ptr 2 0 0),(5,n64 (r+1))])
  (fun r S=>r≤10∧S=[some ⟨433,[keyC W]⟩,some ⟨16,[(encS W b r).map g8]⟩,some ⟨16,[zs .u8 16]⟩]) 0 (by (repeat' (first | exact wN | refine wC rfl ?_))) ⟨by omega,rfl⟩ ?_)
 rintro r S ⟨hr,rfl⟩
 have hx:=Aqx W b r
 have hs:encS W b (r+1)=addP (if r+1<10 then mixP (turnP (encS W b r)) else turnP (encS W b r)) (blkP W (r+1)):=rfl
 generalize hX:encS W b r=X at hx hs ⊢
 refine tS (tS (tO (tR 2 rfl (tN ?_))))
 refine tQ rfl decide_eq_true_iff (fun h=>tK ?_) (fun h=>tX ?_)
 ·have hr':r<10:=by omega
  have hbl:=Bad W hW (r+1) (by omega)
  have htl:=Ash X
  have hml:=Azj (turnP X)
  refine tS ?_;refine tB ?_;refine tS (tO ?_);refine tP (oLW rfl rfl (by simp;omega)) rfl rfl rfl rfl ?_
  refine AyC rfl (Aen (Azy rfl rfl hkc) (Aen (AwF (by1 X)) AtE)) (Asg W X hW hx) (nrf _) rfl rfl rfl rfl rfl rfl ?_
  refine tP (AL rfl rfl rfl (by simp [hx]) (by simp) (aSm (fun _=>rfl) _)) rfl rfl rfl rfl ?_
  refine tN (tS (tS (tO (tR 2 rfl (tN ?_)))))
  have fin:∀ (Y:List UInt8),Y.length=16→addP Y (blkP W (r+1))=encS W b (r+1)→True:=fun _ _ _=>trivial
  refine tQ rfl decide_eq_true_iff (fun h=>?_) (fun h=>tK ?_)
  ·refine tO ?_;refine tP (oLW rfl rfl (by simp)) rfl rfl rfl rfl ?_
   refine tC rfl (cl1 _) (mixed_ok _ htl) (nr1 _) rfl rfl rfl rfl rfl ?_
   refine tP (AL rfl rfl rfl (by simp) (by simp) (aSm (fun _=>rfl) _)) rfl rfl rfl rfl ?_
   refine tN ?_;refine AfW ?_;refine AV rfl ?_;refine dP rfl rfl (oLW rfl rfl (by simp)) ?_;refine dR 2 rfl ?_
   refine dP rfl rfl (Adf rfl rfl (by omega)) ?_
   refine dP rfl rfl (Aln (g:=g8) (16*(r+1)) rfl (by show 0+1+(r+1)*16=_;omega) rfl (by simp;omega)) ?_
   rw [Ayn W boxL hW (r+1) (by omega)]
   refine dN ?_;refine⟨rfl,?_⟩;refine Am ?_
   refine tC rfl (cl2 _ _) (Apz _ _ (by simp) hbl) (nr2 _ _) rfl rfl rfl rfl rfl ?_
   refine tN ?_;refine Am ?_;refine tP (AL rfl rfl rfl (by simp) (by simp) (aSm (fun _=>rfl) _)) rfl rfl rfl rfl ?_
   refine tN ?_;refine Aos ?_;refine tO (tR 1 rfl ?_);refine tP (oA (b:=1) rfl rfl (by omega)) rfl rfl rfl rfl ?_
   refine tR 1 rfl (tN ?_)
   refine⟨r+1,by omega,by (repeat' (first | exact wN | refine wC rfl ?_)),by omega,?_⟩
   rw [hs]
   rw [if_pos (by omega)]
   rfl
  ·refine AfW ?_;refine AV rfl ?_;refine dP rfl rfl (oLW rfl rfl (by simp)) ?_;refine dR 2 rfl ?_
   refine dP rfl rfl (Adf rfl rfl (by omega)) ?_
   refine dP rfl rfl (Aln (g:=g8) (16*(r+1)) rfl (by show 0+1+(r+1)*16=_;omega) rfl (by simp;omega)) ?_
   rw [Ayn W boxL hW (r+1) (by omega)]
   refine dN ?_;refine⟨rfl,?_⟩;refine Am ?_
   refine tC rfl (cl2 _ _) (Apz _ _ (by simp) hbl) (nr2 _ _) rfl rfl rfl rfl rfl ?_
   refine tN ?_;refine Am ?_;refine tP (AL rfl rfl rfl (by simp) (by simp) (aSm (fun _=>rfl) _)) rfl rfl rfl rfl ?_
   refine tN ?_;refine Aos ?_;refine tO (tR 1 rfl ?_);refine tP (oA (b:=1) rfl rfl (by omega)) rfl rfl rfl rfl ?_
   refine tR 1 rfl (tN ?_)
   refine⟨r+1,by omega,by (repeat' (first | exact wN | refine wC rfl ?_)),by omega,?_⟩
   rw [hs]
   rw [if_neg (by omega)]
   rfl
 ·have:r=10:=by omega
  subst this
  rw [show X=encP W b from hX.symm] at hx ⊢
  refine tS (tO ?_)
  refine tP (oLW rfl rfl (by simp [hx])) rfl rfl rfl rfl ?_
  refine tP (AL rfl rfl rfl (by simp) (by simp [hx]) (aSm (fun _=>rfl) _)) rfl rfl rfl rfl ?_
  refine tN (tT (Acr rfl rfl (by simp [hx]) (cLm (fun _=>rfl) _)))
end Go.Eng.Ses
namespace Go.Eng.Ses
open Go Go.Eng
variable [Inhabited GlobT]
attribute [local irreducible] OpR TL TD TC TS Ak rol8 boxL addP turnP mixP
section
variable {AP:Aaa} {m:FM} {S:Ab} {slot:Nat}
theorem o_shln {x y:Ag} {k:IntKind} {a i:Nat} (hx:lo m x=some (.int .i64 (a:Int))) (hy:lo m y=some (.int k (i:Int))) (hi:i<64) (h:a*2^i<9223372036854775808):OpR AP m slot S (.bin .shl x y) (.int .i64 ((a*2^i:Nat):Int)) S ([],[]) :=
 oB hx hy (by
  have e:min ((i:Int)).toNat IntKind.i64.bits=i:=by
   rw [Int.toNat_natCast];exact Nat.min_eq_left (by show i≤64;omega)
  simp only [abin,Abn,if_true,Anw,e]
  rw [if_neg (by omega),show ((a:Int)*2^i)=((a*2^i:Nat):Int) by simp,AcV h])
theorem AkE {x y:Ag} {k k':IntKind} {a i:Nat} (hx:lo m x=some (.int k' (a:Int))) (hy:lo m y=some (.int k (i:Int))) (hi:i≤k'.bits):OpR AP m slot S (.bin .shr x y) (.int k' ((a / 2^i:Nat):Int)) S ([],[]) :=
 oB hx hy (by
  have e:min ((i:Int)).toNat k'.bits=i:=by
   rw [Int.toNat_natCast];exact Nat.min_eq_left hi
  simp only [abin,Abn,if_true,Anw,e]
  rw [if_neg (by omega),show ((2:Int)^i)=((2^i:Nat):Int) by simp,Int.fdiv_eq_ediv_of_nonneg _ (Int.natCast_nonneg _),Int.natCast_ediv])
theorem o_xorn {x y:Ag} {a b:Nat} (hx:lo m x=some (.int .i64 (a:Int))) (hy:lo m y=some (.int .i64 (b:Int))) (ha:a<9223372036854775808) (hb:b<9223372036854775808):OpR AP m slot S (.bin .xor x y) (.int .i64 ((a ^^^ b:Nat):Int)) S ([],[]) :=
 oB hx hy (by
  have h:a ^^^ b<9223372036854775808:=Nat.xor_lt_two_pow (n:=63) ha hb
  have e:∀ n:Nat,n<9223372036854775808→(BitVec.ofInt IntKind.i64.bits (n:Int)).toNat=n:=by
   intro n hn
   rw [BitVec.ofInt_natCast,BitVec.toNat_ofNat]
   exact Nat.mod_eq_of_lt (by show n<2^64;omega)
  simp only [abin,Abn,Bool.false_eq_true,if_false,if_true,aintop,abits,Option.map_some]
  rw [BitVec.toNat_xor,e a ha,e b hb,AcV h])
end
def mulS (a b:BitVec 8):Nat→BitVec 16
 | 0=>0
 | i+1=>if b.getLsbD i then mulS a b i ^^^ (a.setWidth 16 <<< i) else mulS a b i
def redS (p:BitVec 16):Nat→BitVec 16
 | 0=>p
 | k+1=>if (redS p k).getLsbD (14 - k) then redS p k ^^^ (283#16 <<< (6 - k)) else redS p k
def times5 (a b:BitVec 8):BitVec 8:=(redS (mulS a b 8) 7).setWidth 8
def xtP (a:BitVec 8):Nat→BitVec 8
 | 0=>a
 | i+1=>xtP a i <<< 1 ^^^ xtP a i >>> 7*27
def sumX (a b:BitVec 8):Nat→BitVec 8
 | 0=>0
 | i+1=>if b.getLsbD i then sumX a b i ^^^ xtP a i else sumX a b i
theorem red_xor (p q:BitVec 16):∀ k,redS (p ^^^ q) k=redS p k ^^^ redS q k
 | 0=>rfl
 | k+1=>by
   rw [redS,redS,redS,red_xor p q k]
   generalize redS p k=x
   generalize redS q k=y
   rw [BitVec.getLsbD_xor]
   generalize 283#16 <<< (6 - k)=c
   cases x.getLsbD (14 - k)<;>cases y.getLsbD (14 - k)
   ·rfl
   ·show x ^^^ y ^^^ c=x ^^^ (y ^^^ c)
    rw [BitVec.xor_assoc]
   ·show x ^^^ y ^^^ c=x ^^^ c ^^^ y
    ac_rfl
   ·show x ^^^ y=(x ^^^ c) ^^^ (y ^^^ c)
    rw [show (x ^^^ c) ^^^ (y ^^^ c)=(x ^^^ y) ^^^ (c ^^^ c) by ac_rfl,BitVec.xor_self,BitVec.xor_zero]
theorem red_zero:redS 0 7=0:=by decide
theorem red_xt:(List.range 256).all (fun a=>(List.range 8).all fun i=>(redS ((BitVec.ofNat 8 a).setWidth 16 <<< i) 7).setWidth 8 == xtP (BitVec.ofNat 8 a) i)=true:=by decide+kernel
theorem red_xt' (a:BitVec 8) (i:Nat) (hi:i<8):(redS (a.setWidth 16 <<< i) 7).setWidth 8=xtP a i:=by
 have h:=List.all_eq_true.1 (List.all_eq_true.1 red_xt a.toNat (List.mem_range.2 a.isLt)) i (List.mem_range.2 hi)
 rw [BitVec.ofNat_toNat,BitVec.setWidth_eq] at h
 exact eq_of_beq h
theorem AvP (a b:BitVec 8):∀ n,n≤8→(redS (mulS a b n) 7).setWidth 8=sumX a b n
 | 0,_=>by rw [mulS,red_zero];rfl
 | n+1,h=>by
   rw [mulS,sumX]
   split
   ·rw [red_xor,BitVec.setWidth_xor,AvP a b n (by omega),red_xt' a n (by omega)]
   ·exact AvP a b n (by omega)
theorem and_one (b:BitVec 8) (i:Nat):(b >>> i &&& 1#8=1#8)↔b.getLsbD i=true:=by
 rw [show b.getLsbD i=(b >>> i).getLsbD 0 by simp [BitVec.getLsbD_ushiftRight]]
 generalize b >>> i=c
 revert c
 decide+kernel
theorem Ask (a b:BitVec 8):∀ n i,n+i=8→Aky n (sumX a b i) (xtP a i) (b >>> i)=sumX a b 8
 | 0,i,h=>by
   have:i=8:=by omega
   subst this;rfl
 | n+1,i,h=>by
   have e:=Ask a b n (i+1) (by omega)
   rw [sumX,xtP] at e
   rw [Aky,←e]
   congr 1
   ·by_cases hb:b.getLsbD i=true
    ·rw [if_pos hb,if_pos ((and_one b i).2 hb)]
    ·rw [if_neg hb,if_neg (fun h=>hb ((and_one b i).1 h))]
theorem Bcu (a b:BitVec 8):times5 a b=timesP a b:=by
 rw [times5,AvP a b 8 (by omega)]
 have:=Ask a b 8 0 rfl
 rw [←this,timesP]
 rfl
end Go.Eng.Ses
namespace Go.Eng.Ses
open Go Go.Eng
variable [Inhabited GlobT]
attribute [local irreducible] OpR TL TD TC TS Ak timesP rol8 boxL addP turnP mixP
theorem mulS_lt (a b:BitVec 8) (i:Nat) (hi:i≤7):(a.setWidth 16 <<< i).toNat=a.toNat*2^i:=by
 have ha:=a.isLt
 have hp:2^i≤2^7:=Nat.pow_le_pow_right (by decide) hi
 have h:a.toNat*2^i<2^16:=by
  calc a.toNat*2^i≤255*2^7:=Nat.mul_le_mul (by omega) hp
   _<2^16:=by decide
 rw [BitVec.toNat_shiftLeft,BitVec.toNat_setWidth,Nat.mod_eq_of_lt (a:=a.toNat) (by omega),Nat.shiftLeft_eq,Nat.mod_eq_of_lt h]
theorem Bce (p q:BitVec 16):p.toNat ^^^ q.toNat=(p ^^^ q).toNat:=(BitVec.toNat_xor p q).symm
theorem c283 (k:Nat) (hk:k<7):(283#16 <<< (6 - k)).toNat=283*2^(14 - k - 8):=by
 obtain rfl | rfl | rfl | rfl | rfl | rfl | rfl:k=0∨k=1∨k=2∨k=3∨k=4∨k=5∨k=6:=by omega
 all_goals rfl
theorem bit_nat {w:Nat} (b:BitVec w) (i:Nat):(((b.toNat / 2^i%2:Nat):Int)=1)↔b.getLsbD i=true:=by
 rw [BitVec.getLsbD,Nat.testBit_eq_decide_div_mod_eq,decide_eq_true_iff]
 omega
theorem AaR (a b:BitVec 8):Ak AP0 Bp [w8 a,w8 b] (w8 (timesP a b)):=by
 rw [←Bcu]
 obtain⟨R,hR⟩:∃ R,times5 a b=R:=⟨_,rfl⟩
 rw [hR]
 refine Al (af:=AhC) rfl rfl ?_
 refine tS (tO (tR 1 rfl (tN (tS (tO (tR 1 rfl ?_))))))
 refine tN (tS (tS (tO (tR 1 rfl (tN ?_)))))
 refine tB (lST (σ:=Nat) (fun i=>8 - i) (fun i=>[(0,w8 a),(1,w8 b),(5,n64 (mulS a b i).toNat),(6,n64 i)])
  (fun i S=>i≤8∧S=[]) 0 (by (repeat' (first | exact wN | refine wC rfl ?_))) ⟨by omega,rfl⟩ ?_)
 rintro i S ⟨hi,rfl⟩
 have hs:mulS a b (i+1)=if b.getLsbD i then mulS a b i ^^^ (a.setWidth 16 <<< i) else mulS a b i:=rfl
 refine tS (tS (tO (tR 2 rfl (tN ?_))))
 refine tQ rfl decide_eq_true_iff (fun h=>tK ?_) (fun h=>tX ?_)
 ·have hi':i<8:=by omega
  refine tS ?_;refine tB ?_;refine tS (tO (tR 1 rfl ?_))
  refine tP (AgP rfl (by omega)) rfl rfl rfl rfl ?_;refine tR 1 rfl ?_
  refine tP (AkE rfl rfl (by show i≤64;omega)) rfl rfl rfl rfl ?_
  refine tP (Abh (b:=2) rfl rfl (by omega)) rfl rfl rfl rfl ?_;refine tR 1 rfl (tN ?_)
  refine tQ rfl (beq_iff_eq.trans (bit_nat b i)) (fun h=>?_) (fun h=>tK ?_)
  ·rw [if_pos h] at hs
   have hlt:=mulS_lt a b i (by omega)
   have hl:=(a.setWidth 16 <<< i).isLt
   have hl2:=(mulS a b i).isLt
   refine tO (tR 2 rfl ?_);refine tP (AgP rfl (by omega)) rfl rfl rfl rfl ?_;refine tR 1 rfl ?_
   refine tP (o_shln rfl rfl (by omega) (by omega)) rfl rfl rfl rfl ?_
   rw [←hlt]
   refine tP (o_xorn rfl rfl (by omega) (by omega)) rfl rfl rfl rfl ?_
   rw [Bce,←hs]
   refine tR 1 rfl (tN (tO (tR 1 rfl ?_)))
   refine tP (oA (b:=1) rfl rfl (by omega)) rfl rfl rfl rfl ?_;refine tR 1 rfl (tN ?_)
   exact⟨i+1,by omega,by (repeat' (first | exact wN | refine wC rfl ?_)),by omega,rfl⟩
  ·rw [if_neg h] at hs
   refine tO (tR 1 rfl ?_);refine tP (oA (b:=1) rfl rfl (by omega)) rfl rfl rfl rfl ?_;refine tR 1 rfl ?_
   refine tN ?_
   rw [←hs]
   exact⟨i+1,by omega,by (repeat' (first | exact wN | refine wC rfl ?_)),by omega,rfl⟩
 ·have:i=8:=by omega
  subst this
  have hm:R=(redS (mulS a b 8) 7).setWidth 8:=hR.symm
  generalize mulS a b 8=p at hm
  have hs:∀ k,redS p (k+1)=if (redS p k).getLsbD (14 - k) then redS p k ^^^ (283#16 <<< (6 - k)) else redS p k:=fun _=>rfl
  have h0:redS p 0=p:=rfl
  generalize redS p=f at hs h0 hm
  refine tS (tS (tO (tR 1 rfl (tN ?_))))
  rw [←h0]
  refine tB (lST (σ:=Nat) (fun k=>7 - k) (fun k=>[(5,n64 (f k).toNat),(7,n64 (14 - k))])
   (fun k S=>k≤7∧S=[]) 0 (by (repeat' (first | exact wN | refine wC rfl ?_))) ⟨by omega,rfl⟩ ?_)
  rintro k S ⟨hk,rfl⟩
  refine tS (tS (tO (tR 2 rfl (tN ?_))))
  refine tQ rfl decide_eq_true_iff (fun h=>tK ?_) (fun h=>tX ?_)
  ·have hk':k<7:=by omega
   refine tS ?_
   refine tB ?_
   refine tS (tO (tR 2 rfl ?_))
   refine tP (AkE rfl rfl (by show 14 - k≤64;omega)) rfl rfl rfl rfl ?_
   refine tP (Abh (b:=2) rfl rfl (by omega)) rfl rfl rfl rfl ?_;refine tR 1 rfl (tN ?_)
   have hs:=hs k
   refine tQ rfl (beq_iff_eq.trans (bit_nat (f k) (14 - k))) (fun h=>?_) (fun h=>tK ?_)
   ·rw [if_pos h] at hs
    have hlt:=c283 k hk'
    have hl:=(283#16 <<< (6 - k)).isLt
    have hl2:=(f k).isLt
    refine tO (tR 2 rfl ?_);refine tP (AaH (b:=8) rfl rfl (by omega) (by omega)) rfl rfl rfl rfl ?_
    refine tP (o_shln (a:=283) rfl rfl (by omega) (by omega)) rfl rfl rfl rfl ?_
    rw [←hlt]
    refine tP (o_xorn rfl rfl (by omega) (by omega)) rfl rfl rfl rfl ?_
    rw [Bce,←hs]
    refine tR 1 rfl (tN (tO (tR 1 rfl ?_)))
    refine tP (AaH (b:=1) rfl rfl (by omega) (by omega)) rfl rfl rfl rfl ?_;refine tR 1 rfl (tN ?_)
    exact⟨k+1,by omega,by (repeat' (first | exact wN | refine wC rfl ?_)),by omega,rfl⟩
   ·rw [if_neg h] at hs
    refine tO (tR 1 rfl ?_);refine tP (AaH (b:=1) rfl rfl (by omega) (by omega)) rfl rfl rfl rfl ?_;refine tR 1 rfl ?_
    refine tN ?_
    rw [←hs]
    exact⟨k+1,by omega,by (repeat' (first | exact wN | refine wC rfl ?_)),by omega,rfl⟩
  ·have:k=7:=by omega
   subst this
   rw [hm]
   refine tS (tO (tR 1 rfl ?_));refine tP (Agj rfl) rfl rfl rfl rfl ?_;refine tR 1 rfl (tN ?_)
   exact tT (AS rfl ⟨_,fzO rfl⟩)
def powS (b:BitVec 8):Nat→BitVec 8 × BitVec 8
 | 0=>(1,b)
 | k+1=>(timesP (powS b k).1 (timesP (powS b k).2 (powS b k).2),timesP (powS b k).2 (powS b k).2)
def affS (v:Nat):Nat→Nat
 | 0=>0
 | j+1=>affS v j+(v / 2^j+v / 2^((j+4)%8)+v / 2^((j+5)%8)+v / 2^((j+6)%8)+v / 2^((j+7)%8)+99 / 2^j)%2*2^j
theorem affS_lt (v:Nat):∀ j,affS v j<2^j
 | 0=>Nat.zero_lt_one
 | j+1=>by
   rw [affS,Nat.pow_succ]
   have:=affS_lt v j
   have h2:(v / 2^j+v / 2^((j+4)%8)+v / 2^((j+5)%8)+v / 2^((j+6)%8)+v / 2^((j+7)%8)+99 / 2^j)%2≤1:=by omega
   have h3:=Nat.mul_le_mul_right (2^j) h2
   omega
def subP (b:BitVec 8):BitVec 8:=BitVec.ofNat 8 (affS (powS b 7).1.toNat 8)
theorem sub_ok (b:BitVec 8):Ak AP0 AiC [w8 b] (w8 (subP b)):=by
 obtain⟨R,hR⟩:∃ R,subP b=R:=⟨_,rfl⟩
 unfold subP at hR
 show Ak AP0 AiC [w8 b] (w8 (subP b))
 rw [show subP b=R from hR]
 have hs:∀ k,powS b (k+1)=(timesP (powS b k).1 (timesP (powS b k).2 (powS b k).2),timesP (powS b k).2 (powS b k).2):=fun _=>rfl
 have h0:powS b 0=(1,b):=rfl
 generalize powS b=f at hs h0 hR
 refine Al (af:=Anl) rfl rfl ?_
 refine tS (tO (tR 1 rfl (tN (tS (tO (tR 3 rfl ?_))))))
 refine tN (tS (tS (tO (tR 1 rfl (tN ?_)))))
 refine tB (lST (σ:=Nat) (fun k=>7 - k) (fun k=>[(3,w8 (f k).1),(4,w8 (f k).2),(5,n64 (k+1))])
  (fun k S=>k≤7∧S=[]) 0 (by rw [h0];(repeat' (first | exact wN | refine wC rfl ?_))) ⟨by omega,rfl⟩ ?_)
 rintro k S ⟨hk,rfl⟩
 have hs:=hs k
 refine tS (tS (tO (tR 2 rfl (tN ?_))))
 refine tQ rfl decide_eq_true_iff (fun h=>tK ?_) (fun h=>tX ?_)
 ·have hk':k<7:=by omega
  refine tS ?_;refine tB ?_;refine tS (tO (tR 2 rfl ?_))
  refine tC rfl rfl (AaR _ _) rfl rfl rfl rfl rfl rfl ?_;refine tR 1 rfl (tN (tO (tR 2 rfl ?_)))
  refine tC rfl rfl (AaR _ _) rfl rfl rfl rfl rfl rfl ?_;refine tR 1 rfl (tN (tO (tR 1 rfl ?_)))
  refine tP (oA (b:=1) rfl rfl (by omega)) rfl rfl rfl rfl ?_;refine tR 1 rfl (tN ?_)
  exact⟨k+1,by omega,by rw [hs];(repeat' (first | exact wN | refine wC rfl ?_)),by omega,rfl⟩
 ·have:k=7:=by omega
  subst this
  generalize (f 7).1=v at hR ⊢
  have hv:=v.isLt
  have hl:=affS_lt v.toNat
  have ha:∀ j,affS v.toNat (j+1)=affS v.toNat j+(v.toNat / 2^j+v.toNat / 2^((j+4)%8)+v.toNat / 2^((j+5)%8)+v.toNat / 2^((j+6)%8)+v.toNat / 2^((j+7)%8)+99 / 2^j)%2*2^j:=fun _=>rfl
  have hd:∀ j,v.toNat / 2^j≤v.toNat:=fun j=>Nat.div_le_self _ _
  have h0:affS v.toNat 0=0:=rfl
  generalize affS v.toNat=g at hR hl ha h0
  refine tS (tO (tR 1 rfl ?_));refine tP (AgP rfl (by omega)) rfl rfl rfl rfl ?_;refine tR 1 rfl ?_
  refine tN (tS (tO (tR 1 rfl (tN (tS (tS (tO ?_)))))))
  refine tR 1 rfl (tN ?_)
  refine tB (lST (σ:=Nat) (fun j=>8 - j) (fun j=>[(6,n64 v.toNat),(7,n64 (g j)),(8,n64 j)])
   (fun j S=>j≤8∧S=[]) 0 (by rw [h0];(repeat' (first | exact wN | refine wC rfl ?_))) ⟨by omega,rfl⟩ ?_)
  rintro j S ⟨hj,rfl⟩
  refine tS (tS (tO (tR 2 rfl (tN ?_))))
  refine tQ rfl decide_eq_true_iff (fun h=>tK ?_) (fun h=>tX ?_)
  ·have hj':j<8:=by omega
   have ha:=ha j
   have hlj:=hl j
   have hp:2^j≤2^7:=Nat.pow_le_pow_right (by decide) (by omega)
   have h0:=hd j
   have h1:=hd ((j+4)%8)
   have h2:=hd ((j+5)%8)
   have h3:=hd ((j+6)%8)
   have h4:=hd ((j+7)%8)
   refine tS ?_;refine tB ?_;refine tS ?_;refine tD0 rfl ?_;refine dR 2 rfl ?_
   refine dP rfl rfl (AkE rfl rfl (by show _≤64;omega)) ?_
   generalize v.toNat / 2^j=A0 at h0 ha ⊢
   refine dR 2 rfl ?_;refine dP rfl rfl (oA (b:=4) rfl rfl (by omega)) ?_;refine dP rfl rfl (Abh (b:=8) rfl rfl (by omega)) ?_
   refine dP rfl rfl (AkE rfl rfl (by show _≤64;omega)) ?_
   generalize v.toNat / 2^((j+4)%8)=A1 at h1 ha ⊢
   refine dP rfl rfl (oA rfl rfl (by omega)) ?_;refine dR 2 rfl ?_;refine dP rfl rfl (oA (b:=5) rfl rfl (by omega)) ?_
   refine dP rfl rfl (Abh (b:=8) rfl rfl (by omega)) ?_
   refine dP rfl rfl (AkE rfl rfl (by show _≤64;omega)) ?_
   generalize v.toNat / 2^((j+5)%8)=A2 at h2 ha ⊢
   refine dP rfl rfl (oA rfl rfl (by omega)) ?_;refine dR 2 rfl ?_;refine dP rfl rfl (oA (b:=6) rfl rfl (by omega)) ?_
   refine dP rfl rfl (Abh (b:=8) rfl rfl (by omega)) ?_
   refine dP rfl rfl (AkE rfl rfl (by show _≤64;omega)) ?_
   generalize v.toNat / 2^((j+6)%8)=A3 at h3 ha ⊢
   refine dP rfl rfl (oA rfl rfl (by omega)) ?_;refine dR 2 rfl ?_;refine dP rfl rfl (oA (b:=7) rfl rfl (by omega)) ?_
   refine dP rfl rfl (Abh (b:=8) rfl rfl (by omega)) ?_
   refine dP rfl rfl (AkE rfl rfl (by show _≤64;omega)) ?_
   generalize v.toNat / 2^((j+7)%8)=A4 at h4 ha ⊢
   refine dP rfl rfl (oA rfl rfl (by omega)) ?_;refine dR 1 rfl ?_
   refine dP rfl rfl (AkE (a:=99) rfl rfl (by show _≤64;omega)) ?_
   have h5:99 / 2^j≤99:=Nat.div_le_self _ _
   generalize 99 / 2^j=A5 at h5 ha ⊢
   refine dP rfl rfl (oA rfl rfl (by omega)) ?_;refine dR 1 rfl (dN ?_);refine⟨rfl,?_⟩;refine tO ?_
   refine tR 2 rfl ?_;refine tP (Abh (b:=2) rfl rfl (by omega)) rfl rfl rfl rfl ?_;refine tR 1 rfl ?_
   have hm:(A0+A1+A2+A3+A4+A5)%2*2^j≤1*2^j:=Nat.mul_le_mul_right _ (by omega)
   refine tP (o_shln rfl rfl (by omega) (by omega)) rfl rfl rfl rfl ?_
   refine tP (oA rfl rfl (by omega)) rfl rfl rfl rfl ?_
   rw [←ha]
   refine tR 1 rfl (tN (tO (tR 1 rfl ?_)))
   refine tP (oA (b:=1) rfl rfl (by omega)) rfl rfl rfl rfl ?_;refine tR 1 rfl (tN ?_)
   exact⟨j+1,by omega,by (repeat' (first | exact wN | refine wC rfl ?_)),by omega,rfl⟩
  ·have:j=8:=by omega
   subst this
   refine tS (tO (tR 1 rfl ?_));refine tP (AoO rfl) rfl rfl rfl rfl ?_;refine tR 1 rfl (tN ?_)
   rw [show g 8%256=R.toNat by rw [←hR,BitVec.toNat_ofNat]]
   exact tT (AS rfl ⟨_,fzO rfl⟩)
end Go.Eng.Ses
namespace Go.Eng.Ses
open Go Go.Eng
variable [Inhabited GlobT]
set_option maxRecDepth 10000 in
theorem sub_all:(List.range 256).all (fun n=>subP (BitVec.ofNat 8 n) == (boxL.getD n 0).toBitVec)=true:=by decide+kernel
theorem sub_eq (b:BitVec 8):subP b=(boxL.getD b.toNat 0).toBitVec:=by
 have h:=List.all_eq_true.1 sub_all b.toNat (List.mem_range.2 b.isLt)
 rw [BitVec.ofNat_toNat,BitVec.setWidth_eq] at h
 exact eq_of_beq h
attribute [local irreducible] OpR TL TD TC TS Ak timesP rol8 boxL addP turnP mixP subP
theorem box5_ok:Ak AP0 AtM [] (.imm (boxL.map fun b=>[g8 b])):=by
 refine Al (af:=Anm) rfl rfl ?_
 have hbox:=AdO
 refine tS (tO (tR 1 rfl (tN (tS (tO (tR 1 rfl ?_))))))
 refine tN (tS (tS (tO (tR 1 rfl (tN ?_)))))
 refine tB (lST (σ:=Nat × Zv) (fun q=>256 - q.1) (fun q=>[(1,q.2),(2,n64 q.1)])
  (fun q S=>Acc 0 1 S q.2 ((boxL.take q.1).map fun b=>[g8 b])∧q.1≤256) (0,.nils) (by (repeat' (first | exact wN | refine wC rfl ?_))) ⟨Ayr,by omega⟩ ?_)
 rintro⟨i,v⟩ S ⟨ha,hi⟩
 dsimp only at *
 refine tS (tS (tO (tR 2 rfl (tN ?_))))
 refine tQ rfl decide_eq_true_iff (fun h=>tK ?_) (fun h=>tX ?_)
 ·have hi':i<256:=by omega
  have es:Ak AP0 AiC [.int .u8 (i:Int)] (g8 (boxL.getD i 0)):=by
   have h1:=sub_ok (BitVec.ofNat 8 i)
   have h2:(BitVec.ofNat 8 i).toNat=i:=by rw [BitVec.toNat_ofNat,Nat.mod_eq_of_lt (by omega)]
   rw [sub_eq,h2] at h1
   rw [w8,h2] at h1
   exact h1
  have et:boxL.take (i+1)=boxL.take i++[boxL.getD i 0]:=by
   rw [List.take_add_one,AcU (d:=0) (by omega)];rfl
  refine tS ?_;refine tB ?_;refine tO ?_;refine tP (Br rfl) rfl rfl rfl rfl ?_;refine tR 1 rfl ?_
  refine tP (Afv rfl (fits_u8 (by omega))) rfl rfl rfl rfl ?_;refine tC rfl rfl (es) rfl rfl rfl rfl rfl rfl ?_
  refine tP (AZ rfl rfl rfl) rfl rfl rfl rfl ?_
  refine AvH rfl rfl ha rfl (by simp) rfl (by simp;omega) (Nat.zero_le _) rfl rfl ?_
  intro v' S' ha' _ _
  refine tP (Br rfl) rfl rfl rfl rfl ?_;refine tN (tO (tR 1 rfl ?_))
  refine tP (oA (b:=1) rfl rfl (by omega)) rfl rfl rfl rfl ?_;refine tR 1 rfl (tN ?_)
  refine⟨(i+1,v'),by dsimp only;omega,by (repeat' (first | exact wN | refine wC rfl ?_)),?_,hi'⟩
  dsimp only
  rw [et,List.map_append]
  exact ha'
 ·have:i=256:=by omega
  subst this
  rw [List.take_of_length_le (by omega)] at ha
  have hc:Ao (boxL.map fun b=>[g8 b])=true:=cLLm (fun _=>rfl) _
  generalize (boxL.map fun b=>[g8 b])=rows at ha hc ⊢
  refine tS (tO ?_);refine tP (Br rfl) rfl rfl rfl rfl ?_;refine tP (Br rfl) rfl rfl rfl rfl ?_;refine tN ?_
  exact tT (AS (vs:=[v]) rfl (ha.frz hc))
end Go.Eng.Ses
namespace Go.Eng.Ses
open Go Go.Eng
variable [Inhabited GlobT]
attribute [local irreducible] OpR TL TD TC TS Ak timesP rol8 boxL addP turnP mixP subP
section
variable {AP:Aaa} {m:FM} {S:Ab} {slot:Nat}
theorem o_loadAr {l:List UInt8} {b i n:Nat} {a:Ag} {blk:ABlock} (h:lo m a=some (.ptr b i n)) (h1:S[b]?=some (some blk)) (h2:blk.rows[i]?=some (l.map g8)) (h3:n<l.length):OpR AP m slot S (.load false 1 a) (g8 (l.getD n 0)) S ([b],[]) :=
 BK h h1 h2 (by simp;omega) (by
  simp only [Abe,Bool.false_eq_true,if_false,List.head?_drop]
  exact AQ h3)
theorem o_loadWr {l:List UInt8} {sz b i:Nat} {a:Ag} {blk:ABlock} (h:lo m a=some (.ptr b i 0)) (h1:S[b]?=some (some blk)) (h2:blk.rows[i]?=some (l.map g8)) (h3:l.length=sz):OpR AP m slot S (.load true sz a) (.agg (l.map g8)) S ([b],[]) :=
 BK h h1 h2 (by simp;omega) (by
  subst h3
  simp only [Abe,List.drop_zero,if_true,List.length_map,Nat.le_refl]
  rw [show l.length=(l.map g8).length by simp,List.take_length])
end
def wordB (k:List UInt8) (w:Nat):List UInt8:=(List.range 4).map fun c=>schB k (4*w+c)
theorem Asd (k:List UInt8) (w c:Nat) (hc:c<4):(wordB k w).getD c 0=schB k (4*w+c):=AX hc
@[simp] theorem Bck (k:List UInt8) (w:Nat):(wordB k w).length=4:=by simp [wordB]
theorem Bcj (k:List UInt8) (w c:Nat) (hw:4≤w) (h0:w%4=0) (hc:c<4):schB k (4*w+c)=UInt8.ofBitVec ((schB k (4*(w - 4)+c)).toBitVec ^^^ ((boxL.getD (schB k (4*(w - 1)+(c+1)%4)).toNat 0).toBitVec ^^^ (if c=0 then rcP (w / 4 - 1) else 0))):=by
 obtain⟨j,rfl⟩:∃ j,w=4*(j+1):=⟨w / 4 - 1,by omega⟩
 rw [show 4*(4*(j+1))+c=16*(j+1)+c by omega,AhY k j c (by omega),show 4*(4*(j+1) - 4)+c=16*j+c by omega,AgH k j c (by omega),show 4*(4*(j+1) - 1)+(c+1)%4=16*j+(12+(c+1)%4) by omega,AgH k j _ (by omega),show 4*(j+1) / 4 - 1=j by omega]
 generalize rowsP k j=L
 obtain rfl | rfl | rfl | rfl:c=0∨c=1∨c=2∨c=3:=by omega
 ·rw [if_pos rfl,←BitVec.xor_assoc];rfl
 all_goals
  rw [if_neg (by decide),show ∀ x:BitVec 8,x ^^^ 0=x from fun x=>BitVec.xor_zero]
  rfl
theorem Bci (k:List UInt8) (w c:Nat) (hw:4≤w) (h0:w%4≠0) (hc:c<4):schB k (4*w+c)=UInt8.ofBitVec ((schB k (4*(w - 4)+c)).toBitVec ^^^ (schB k (4*(w - 1)+c)).toBitVec):=by
 obtain⟨j,i,rfl,hi,hi2⟩:∃ j i,w=4*(j+1)+i∧i<4∧i≠0:=⟨w / 4 - 1,w%4,by omega,by omega,h0⟩
 obtain⟨n,rfl⟩:∃ n,i=n+1:=⟨i - 1,by omega⟩
 rw [show 4*(4*(j+1)+(n+1))+c=16*(j+1)+(4*n+c+4) by omega,AhY k j _ (by omega),show 4*(4*(j+1)+(n+1) - 4)+c=16*j+(4*n+c+4) by omega,AgH k j _ (by omega),show 4*(4*(j+1)+(n+1) - 1)+c=16*(j+1)+(4*n+c) by omega,AhY k j _ (by omega),rowB]
 rfl
theorem AfV (k:List UInt8) (hk:k.length=16) (w:Nat) (hw:w<4):(wordB k w).map g8=[g8 (k.getD (4*w) 0),g8 (k.getD (4*w+1) 0),g8 (k.getD (4*w+2) 0),g8 (k.getD (4*w+3) 0)]:=by
 have e:∀ c,c<4→schB k (4*w+c)=k.getD (4*w+c) 0:=fun c hc=>by
  have:=AgH k 0 (4*w+c) (by omega)
  rw [show 16*0+(4*w+c)=4*w+c by omega] at this
  exact this
 have e0:=e 0 (by omega)
 have e1:=e 1 (by omega)
 have e2:=e 2 (by omega)
 have e3:=e 3 (by omega)
 show [g8 (schB k (4*w+0)),g8 (schB k (4*w+1)),g8 (schB k (4*w+2)),g8 (schB k (4*w+3))]=_
 rw [e0,e1,e2,e3]
 rfl
def Ajg (k:List UInt8) (w c:Nat):UInt8:=if w%4=0 then UInt8.ofBitVec ((boxL.getD (schB k (4*(w - 1)+(c+1)%4)).toNat 0).toBitVec ^^^ (if c=0 then rcP (w / 4 - 1) else 0)) else schB k (4*(w - 1)+c)
theorem Bcv (k:List UInt8) (w:Nat) (h:w%4≠0):(List.range 4).map (Ajg k w)=wordB k (w - 1):=by
 unfold wordB
 refine List.map_congr_left fun c _=>?_
 rw [Ajg,if_neg h]
theorem Bcw (k:List UInt8) (w:Nat) (h:w%4=0):(List.range 4).map (Ajg k w)=[UInt8.ofBitVec ((boxL.getD (schB k (4*(w - 1)+1)).toNat 0).toBitVec ^^^ rcP (w / 4 - 1)),boxL.getD (schB k (4*(w - 1)+2)).toNat 0,boxL.getD (schB k (4*(w - 1)+3)).toNat 0,boxL.getD (schB k (4*(w - 1)+0)).toNat 0]:=by
 have z:∀ x:UInt8,UInt8.ofBitVec (x.toBitVec ^^^ 0)=x:=fun x=>by
  show UInt8.ofBitVec (x.toBitVec ^^^ 0#8)=x
  rw [BitVec.xor_zero]
 show [Ajg k w 0,Ajg k w 1,Ajg k w 2,Ajg k w 3]=_
 unfold Ajg
 rw [if_pos h,if_pos h,if_pos h,if_pos h,if_pos rfl,if_neg (by decide),if_neg (by decide),if_neg (by decide),z,z,z]
theorem Bch (k:List UInt8) (w c:Nat) (hw:4≤w) (hc:c<4):schB k (4*w+c)=UInt8.ofBitVec ((schB k (4*(w - 4)+c)).toBitVec ^^^ (Ajg k w c).toBitVec):=by
 by_cases h:w%4=0
 ·rw [Bcj k w c hw h hc,Ajg,if_pos h]
 ·rw [Bci k w c hw h hc,Ajg,if_neg h]
theorem Acc.mk' {k sz b n:Nat} {S:Ab} {rows:List (List Zv)} (hne:rows≠[]) (h:S[b]?=some (some ⟨sz,rows⟩)) (hn:n=rows.length) (hk:k≤b:=by omega):Acc k sz S (.view b 0 n false) rows :=
 .inr ⟨hne,b,hk,by rw [hn],h⟩
theorem words_ok (k:List UInt8) (hk:k.length=16):Ak AP0 AmC [.str k,.imm (boxL.map fun b=>[g8 b])] (.imm ((List.range 44).map fun w=>(wordB k w).map g8)):=by
 have hbox:=AdO
 obtain⟨bx,hbx⟩:∃ bx,(boxL.map fun b=>[g8 b])=bx:=⟨_,rfl⟩
 have bget:∀ n,n<256→bx[n]?=some [g8 (boxL.getD n 0)]:=fun n h=>by
  rw [←hbx,List.getElem?_map,AcU (d:=0) (by omega)];rfl
 rw [hbx]
 refine Al (af:=AhB) rfl rfl ?_
 refine tS (tO (tR 1 rfl (tN (tS (tO (tR 1 rfl ?_))))))
 refine tN (tS (tS (tO (tR 1 rfl (tN ?_)))))
 refine tB (Aal ?_)
 refine tS (tS (tO (tR 2 rfl (tN ?_))))
 refine AI (t:=true) rfl (fun _=>?_) (fun h=>nomatch h);refine tK (tS ?_);refine tB ?_
 refine Adz [none] rfl ?_;refine dR 3 rfl ?_;refine dP rfl rfl (oB (v := .int .i64 0) rfl rfl rfl) ?_
 refine dP rfl rfl (AcR rfl rfl (by simp;omega)) ?_;refine dR 2 rfl ?_;refine dP rfl rfl (oB (v := .int .i64 0) rfl rfl rfl) ?_
 refine dP rfl rfl (oB (v := .int .i64 1) rfl rfl rfl) ?_;refine dP rfl rfl (AcR rfl rfl (by simp;omega)) ?_;refine dR 2 rfl ?_
 refine dP rfl rfl (oB (v := .int .i64 0) rfl rfl rfl) ?_;refine dP rfl rfl (oB (v := .int .i64 2) rfl rfl rfl) ?_
 refine dP rfl rfl (AcR rfl rfl (by simp;omega)) ?_;refine dR 2 rfl ?_;refine dP rfl rfl (oB (v := .int .i64 0) rfl rfl rfl) ?_
 refine dP rfl rfl (oB (v := .int .i64 3) rfl rfl rfl) ?_;refine dP rfl rfl (AcR rfl rfl (by simp;omega)) ?_
 refine dP rfl rfl (Aba rfl rfl) ?_;refine dP rfl rfl (Afw rfl rfl) ?_;refine dR 2 rfl (dN ?_);refine⟨rfl,?_⟩
 refine tO (tR 1 rfl ?_);refine tP (oB (v := .int .i64 1) rfl rfl rfl) rfl rfl rfl rfl ?_;refine tR 1 rfl ?_
 refine tN ?_
 refine Aal ?_
 refine tS (tS (tO (tR 2 rfl (tN ?_))))
 refine AI (t:=true) rfl (fun _=>?_) (fun h=>nomatch h);refine tK (tS ?_);refine tB ?_
 refine Adz [none] rfl ?_;refine dR 3 rfl ?_;refine dP rfl rfl (oB (v := .int .i64 4) rfl rfl rfl) ?_
 refine dP rfl rfl (AcR rfl rfl (by simp;omega)) ?_;refine dR 2 rfl ?_;refine dP rfl rfl (oB (v := .int .i64 4) rfl rfl rfl) ?_
 refine dP rfl rfl (oB (v := .int .i64 5) rfl rfl rfl) ?_;refine dP rfl rfl (AcR rfl rfl (by simp;omega)) ?_;refine dR 2 rfl ?_
 refine dP rfl rfl (oB (v := .int .i64 4) rfl rfl rfl) ?_;refine dP rfl rfl (oB (v := .int .i64 6) rfl rfl rfl) ?_
 refine dP rfl rfl (AcR rfl rfl (by simp;omega)) ?_;refine dR 2 rfl ?_;refine dP rfl rfl (oB (v := .int .i64 4) rfl rfl rfl) ?_
 refine dP rfl rfl (oB (v := .int .i64 7) rfl rfl rfl) ?_;refine dP rfl rfl (AcR rfl rfl (by simp;omega)) ?_
 refine dP rfl rfl (Aba rfl rfl) ?_;refine dP rfl rfl (Afw rfl rfl) ?_;refine dR 2 rfl (dN ?_);refine⟨rfl,?_⟩
 refine tO (tR 1 rfl ?_);refine tP (oB (v := .int .i64 2) rfl rfl rfl) rfl rfl rfl rfl ?_;refine tR 1 rfl ?_
 refine tN ?_
 refine Aal ?_
 refine tS (tS (tO (tR 2 rfl (tN ?_))))
 refine AI (t:=true) rfl (fun _=>?_) (fun h=>nomatch h);refine tK (tS ?_);refine tB ?_
 refine Adz [none] rfl ?_;refine dR 3 rfl ?_;refine dP rfl rfl (oB (v := .int .i64 8) rfl rfl rfl) ?_
 refine dP rfl rfl (AcR rfl rfl (by simp;omega)) ?_;refine dR 2 rfl ?_;refine dP rfl rfl (oB (v := .int .i64 8) rfl rfl rfl) ?_
 refine dP rfl rfl (oB (v := .int .i64 9) rfl rfl rfl) ?_;refine dP rfl rfl (AcR rfl rfl (by simp;omega)) ?_;refine dR 2 rfl ?_
 refine dP rfl rfl (oB (v := .int .i64 8) rfl rfl rfl) ?_;refine dP rfl rfl (oB (v := .int .i64 10) rfl rfl rfl) ?_
 refine dP rfl rfl (AcR rfl rfl (by simp;omega)) ?_;refine dR 2 rfl ?_;refine dP rfl rfl (oB (v := .int .i64 8) rfl rfl rfl) ?_
 refine dP rfl rfl (oB (v := .int .i64 11) rfl rfl rfl) ?_;refine dP rfl rfl (AcR rfl rfl (by simp;omega)) ?_
 refine dP rfl rfl (Aba rfl rfl) ?_;refine dP rfl rfl (Afw rfl rfl) ?_;refine dR 2 rfl (dN ?_);refine⟨rfl,?_⟩
 refine tO (tR 1 rfl ?_);refine tP (oB (v := .int .i64 3) rfl rfl rfl) rfl rfl rfl rfl ?_;refine tR 1 rfl ?_
 refine tN ?_
 refine Aal ?_
 refine tS (tS (tO (tR 2 rfl (tN ?_))))
 refine AI (t:=true) rfl (fun _=>?_) (fun h=>nomatch h);refine tK (tS ?_);refine tB ?_
 refine Adz [none] rfl ?_;refine dR 3 rfl ?_;refine dP rfl rfl (oB (v := .int .i64 12) rfl rfl rfl) ?_
 refine dP rfl rfl (AcR rfl rfl (by simp;omega)) ?_;refine dR 2 rfl ?_;refine dP rfl rfl (oB (v := .int .i64 12) rfl rfl rfl) ?_
 refine dP rfl rfl (oB (v := .int .i64 13) rfl rfl rfl) ?_;refine dP rfl rfl (AcR rfl rfl (by simp;omega)) ?_;refine dR 2 rfl ?_
 refine dP rfl rfl (oB (v := .int .i64 12) rfl rfl rfl) ?_;refine dP rfl rfl (oB (v := .int .i64 14) rfl rfl rfl) ?_
 refine dP rfl rfl (AcR rfl rfl (by simp;omega)) ?_;refine dR 2 rfl ?_;refine dP rfl rfl (oB (v := .int .i64 12) rfl rfl rfl) ?_
 refine dP rfl rfl (oB (v := .int .i64 15) rfl rfl rfl) ?_;refine dP rfl rfl (AcR rfl rfl (by simp;omega)) ?_
 refine dP rfl rfl (Aba rfl rfl) ?_;refine dP rfl rfl (Afw rfl rfl) ?_;refine dR 2 rfl (dN ?_);refine⟨rfl,?_⟩
 refine tO (tR 1 rfl ?_);refine tP (oB (v := .int .i64 4) rfl rfl rfl) rfl rfl rfl rfl ?_;refine tR 1 rfl ?_
 refine tN ?_
 refine Aal ?_
 refine tS (tS (tO (tR 2 rfl (tN ?_))))
 refine AI (t:=false) rfl (fun h=>nomatch h) (fun _=>?_);refine tX ?_;refine tS (tO (tR 1 rfl ?_))
 refine tN (tS (tS (tO (tR 1 rfl (tN ?_)))))
 have w4:(List.range 4).map (fun w=>(wordB k w).map g8)=[[g8 k[0],g8 k[1],g8 k[2],g8 k[3]],[g8 k[4],g8 k[5],g8 k[6],g8 k[7]],[g8 k[8],g8 k[9],g8 k[10],g8 k[11]],[g8 k[12],g8 k[13],g8 k[14],g8 k[15]]]:=by
  have e:∀ n (h:n<k.length),k.getD n 0=k[n]:=fun n h=>by rw [List.getD_eq_getElem?_getD,List.getElem?_eq_getElem h];rfl
  show [(wordB k 0).map g8,(wordB k 1).map g8,(wordB k 2).map g8,(wordB k 3).map g8]=_
  rw [AfV k hk 0 (by omega),AfV k hk 1 (by omega),AfV k hk 2 (by omega),AfV k hk 3 (by omega)]
  rw [e _ (by omega),e _ (by omega),e _ (by omega),e _ (by omega),e _ (by omega),e _ (by omega),e _ (by omega),e _ (by omega),e _ (by omega),e _ (by omega),e _ (by omega),e _ (by omega),e _ (by omega),e _ (by omega),e _ (by omega),e _ (by omega)]
 have hget:∀ w n,n<w→((List.range w).map fun w=>(wordB k w).map g8)[n]?=some ((wordB k n).map g8):=fun w n h=>by
  rw [List.getElem?_map,List.getElem?_range h];rfl
 have hsucc:∀ w,(List.range (w+1)).map (fun w=>(wordB k w).map g8)=(List.range w).map (fun w=>(wordB k w).map g8)++[(wordB k w).map g8]:=fun w=>by
  rw [List.range_succ,List.map_append];rfl
 have hcl:∀ w,Ao ((List.range w).map fun w=>(wordB k w).map g8)=true:=fun w=>cLLm (fun _=>cLm (fun _=>rfl) _) _
 have hln:∀ w,((List.range w).map fun w=>(wordB k w).map g8).length=w:=fun w=>by simp
 generalize hrows:(fun w=>(List.range w).map fun w=>(wordB k w).map g8)=rows
 have er:∀ w,((List.range w).map fun w=>(wordB k w).map g8)=rows w:=fun w=>congrFun hrows w
 simp only [er] at hget hsucc hcl hln w4 ⊢
 refine tB (lST (σ:=Nat × Zv) (fun q=>44 - q.1) (fun q=>[(0,.str k),(1,.imm bx),(5,q.2),(7,w8 (rcP ((q.1+3) / 4 - 1))),(8,n64 q.1)])
  (fun q S=>4≤q.1∧q.1≤44∧Acc 0 4 S q.2 (rows q.1)) (4,.view 3 0 4 false) (by (repeat' (first | exact wN | refine wC rfl ?_))) ⟨by omega,by omega,.inr ⟨by rw [w4];simp,3,by omega,by rw [hln],by rw [w4];rfl⟩⟩ ?_)
 rintro⟨w,v⟩ S ⟨hw4,hw,ha⟩
 dsimp only at *
 refine tS (tS (tO (tR 2 rfl (tN ?_))))
 refine tQ rfl decide_eq_true_iff (fun h=>tK ?_) (fun h=>tX ?_)
 ·have hw':w<44:=by omega
  rcases ha with⟨_,h⟩ | ⟨hne,b,_,rfl,hb⟩
  ·have:=hln w;rw [h] at this;simp at this;omega
  rw [hln]
  refine tS ?_;refine tB ?_;refine tS (tO (tR 2 rfl ?_))
  refine tP (AaH (b:=1) rfl rfl (by omega) (by omega)) rfl rfl rfl rfl ?_
  refine tP (AE rfl rfl (by omega) hb rfl) rfl rfl rfl rfl ?_
  refine tP (o_loadWr rfl hb (hget w (w - 1) (by omega)) (by simp)) rfl rfl rfl rfl ?_
  refine AcP (row:=zs .u8 4) (sz:=4) rfl rfl ?_
  refine tP (AL rfl rfl AW rfl (by simp) (aSm (fun _=>rfl) _)) rfl rfl rfl rfl ?_
  rw [BN]
  refine tN ?_
  have hbp:=(List.getElem?_eq_some_iff.1 hb).1
  obtain⟨T,hT⟩:∃ T,S++[some ⟨4,[(wordB k (w - 1)).map g8]⟩]=T:=⟨_,rfl⟩
  have tb:=hT▸AU (r:=[some ⟨4,[(wordB k (w - 1)).map g8]⟩]) hb
  have tp:T[S.length]?=some (some ⟨4,[(wordB k (w - 1)).map g8]⟩):=hT▸AW
  rw [hT]
  generalize S.length=p at hbp tp ⊢
  clear hT hb S
  refine tc_cut (σ:=Unit) (fun _=>[(0,.str k),(1,.imm bx),(5,.view b 0 w false),(7,w8 (rcP ((w+1+3) / 4 - 1))),(8,n64 w),(9,.ptr p 0 0)])
   (fun _ S=>S[b]?=some (some ⟨4,rows w⟩)∧S[p]?=some (some ⟨4,[((List.range 4).map (Ajg k w)).map g8]⟩)) ?_ ?_
  ·refine tS (tO ?_)
   refine tR 1 rfl ?_;refine tP (Abh (b:=4) rfl rfl (by omega)) rfl rfl rfl rfl ?_;refine tR 1 rfl (tN ?_)
   refine tQ rfl beq_iff_eq (fun h=>?_) (fun h=>tK ?_)
   ·refine tS ?_;refine tD0 rfl ?_;refine dR 2 rfl ?_;refine dP rfl rfl (BK rfl tp rfl (Nat.le_of_ble_eq_true rfl) rfl) ?_
    refine dP rfl rfl (Bl rfl rfl (bget _ (UInt8.toNat_lt _)) rfl) ?_
    refine dR 2 rfl ?_;refine dP rfl rfl (oB rfl rfl (AC _ _)) ?_;refine dR 2 rfl ?_
    refine dP rfl rfl (BK rfl tp rfl (Nat.le_of_ble_eq_true rfl) rfl) ?_
    refine dP rfl rfl (Bl rfl rfl (bget _ (UInt8.toNat_lt _)) rfl) ?_
    refine dR 3 rfl ?_;refine dP rfl rfl (BK rfl tp rfl (Nat.le_of_ble_eq_true rfl) rfl) ?_
    refine dP rfl rfl (Bl rfl rfl (bget _ (UInt8.toNat_lt _)) rfl) ?_
    refine dR 3 rfl ?_;refine dP rfl rfl (BK rfl tp rfl (Nat.le_of_ble_eq_true rfl) rfl) ?_
    refine dP rfl rfl (Bl rfl rfl (bget _ (UInt8.toNat_lt _)) rfl) ?_
    refine dR 1 rfl ?_;refine dP rfl rfl (Aba rfl rfl) ?_
    refine dP rfl rfl (AdT rfl rfl tp rfl rfl rfl rfl (Nat.le_of_ble_eq_true rfl) rfl) ?_;refine dN ?_;refine⟨rfl,?_⟩;refine tO ?_
    refine tR 1 rfl ?_;refine tC rfl rfl (AaR _ 2) rfl rfl rfl rfl rfl rfl ?_;refine tR 1 rfl (tN ?_)
    have h':w%4=0:=by omega
    have hrc:rcP ((w+1+3) / 4 - 1)=timesP (rcP ((w+3) / 4 - 1)) 2:=by
     rw [show (w+1+3) / 4 - 1=((w+3) / 4 - 1)+1 by omega];rfl
    refine⟨(),by rw [hrc];(repeat' (first | exact wN | refine wC rfl ?_)),Aw (by omega) tb,(Ax tp).trans ?_⟩
    rw [Bcw k w h']
    rw [show w / 4 - 1=(w+3) / 4 - 1 by omega]
    rfl
   ·refine⟨(),?_,tb,?_⟩
    ·rw [show (w+1+3) / 4=(w+3) / 4 by omega]
     (repeat' (first | exact wN | refine wC rfl ?_))
    ·rw [tp]
     rw [Bcv k w (by omega)]
  ·rintro _ S ⟨hb,hp⟩
   refine tS (tO ?_);refine AcP rfl rfl ?_;refine tN (tS (tS (tO ?_)))
   refine tR 1 rfl (tN ?_)
   have hqp:=(List.getElem?_eq_some_iff.1 hp).1
   obtain⟨T,hT⟩:∃ T,S++[some ⟨4,[(fillA 0 (fun c=>schB k (4*w+c)) 4 0).map g8]⟩]=T:=⟨_,rfl⟩
   have tb:=hT▸AU (r:=[some ⟨4,[(fillA 0 (fun c=>schB k (4*w+c)) 4 0).map g8]⟩]) hb
   have tp:=hT▸AU (r:=[some ⟨4,[(fillA 0 (fun c=>schB k (4*w+c)) 4 0).map g8]⟩]) hp
   have tq:T[S.length]?=some (some ⟨4,[(fillA 0 (fun c=>schB k (4*w+c)) 4 0).map g8]⟩):=hT▸AW
   show TC _ _ _ _ (S++[some ⟨4,[(fillA 0 (fun c=>schB k (4*w+c)) 4 0).map g8]⟩]) _
   rw [hT]
   generalize S.length=q at hqp tq ⊢
   clear hT hb hp S
   refine tB (lST (σ:=Nat) (fun j=>4 - j) (fun j=>[(0,.str k),(1,.imm bx),(5,.view b 0 w false),(7,w8 (rcP ((w+1+3) / 4 - 1))),(8,n64 w),(9,.ptr p 0 0),(10,.ptr q 0 0),(11,n64 j)])
    (fun j S=>j≤4∧S[b]?=some (some ⟨4,rows w⟩)∧S[p]?=some (some ⟨4,[((List.range 4).map (Ajg k w)).map g8]⟩)∧S[q]?=some (some ⟨4,[(fillA 0 (fun c=>schB k (4*w+c)) 4 j).map g8]⟩)) 0 (by (repeat' (first | exact wN | refine wC rfl ?_))) ⟨by omega,tb,tp,tq⟩ ?_)
   rintro j S ⟨hj,hb,hp,hq⟩
   refine tS (tS (tO (tR 2 rfl (tN ?_))))
   refine tQ rfl decide_eq_true_iff (fun h=>tK ?_) (fun h=>tX ?_)
   ·have hj':j<4:=by omega
    have hwt:=Bch k w j hw4 hj'
    refine tS ?_;refine tB ?_;refine tD0 rfl ?_;refine dR 3 rfl ?_
    refine dP rfl rfl (AaH (b:=4) rfl rfl (by omega) (by omega)) ?_;refine dR 1 rfl ?_
    refine dP rfl rfl (AE rfl rfl (by omega) hb rfl) ?_;refine dP rfl rfl (AM rfl rfl (by omega)) ?_
    refine dP rfl rfl (o_loadAr rfl hb (hget w (w - 4) (by omega)) (by simpa using hj')) ?_
    rw [Asd k (w - 4) j hj']
    refine dR 1 rfl ?_;refine dP rfl rfl (AM rfl rfl (by omega)) ?_;refine dP rfl rfl (AN 0 rfl hp (by assumption)) ?_
    refine dP rfl rfl (oB rfl rfl (AC _ _)) ?_;refine dP rfl rfl (AM rfl rfl (by omega)) ?_
    refine dP rfl rfl (Bu rfl rfl hq (by simp;omega)) ?_;refine dN ?_;refine⟨rfl,?_⟩;refine tO (tR 1 rfl ?_)
    refine tP (oA (b:=1) rfl rfl (by omega)) rfl rfl rfl rfl ?_;refine tR 1 rfl (tN ?_)
    refine⟨j+1,by omega,by (repeat' (first | exact wN | refine wC rfl ?_)),by omega,Aw (by omega) hb,Aw (by omega) hp,(Ax hq).trans ?_⟩
    rw [←Bh hj',hwt,AX hj']
   ·have:j=4:=by omega
    subst this
    rw [Bw] at hq
    refine tO (tR 1 rfl ?_);refine tP (BK rfl hq rfl (Nat.le_of_ble_eq_true rfl) rfl) rfl rfl rfl rfl ?_
    refine tP (Afw rfl rfl) rfl rfl rfl rfl ?_
    refine tl_acc rfl rfl (Acc.mk' hne hb (by rw [hln])) rfl (by simp) rfl (by rw [hln];simp;omega) (Nat.zero_le _) rfl rfl ?_
    intro v' S' ha' _ _
    refine tP (Br rfl) rfl rfl rfl rfl ?_;refine tN (tO (tR 1 rfl ?_))
    refine tP (oA (b:=1) rfl rfl (by omega)) rfl rfl rfl rfl ?_;refine tR 1 rfl (tN ?_)
    refine⟨(w+1,v'),by dsimp only;omega,by (repeat' (first | exact wN | refine wC rfl ?_)),by dsimp only;omega,by dsimp only;omega,?_⟩
    dsimp only
    rw [hsucc]
    exact ha'
 ·have:w=44:=by omega
  subst this
  have hc:=hcl 44
  generalize rows 44=R at ha hc ⊢
  refine tS (tO ?_);refine tP (Br rfl) rfl rfl rfl rfl ?_;refine tP (Br rfl) rfl rfl rfl rfl ?_;refine tN ?_
  exact tT (AS (vs:=[v]) rfl (ha.frz hc))
end Go.Eng.Ses
namespace Go.Eng.Ses
open Go Go.Eng
variable [Inhabited GlobT]
attribute [local irreducible] OpR TL TD TC TS Ak timesP rol8 boxL
section
variable {α:Type} {o f:Nat→α} {p:Nat→Nat} {N i c j:Nat} {e:α}
def updP (o f:Nat→α) (p:Nat→Nat) (N i:Nat):List α:=(List.range N).map fun n=>if p n<i then f n else o n
@[simp] theorem updP_len:(updP o f p N i).length=N:=by simp [updP]
theorem updP_get (h:j<N):(updP o f p N i).getD j e=if p j<i then f j else o j:=AX h
theorem Ald (h:j<N) (h2:i≤p j):(updP o f p N i).getD j e=o j:=by rw [updP_get h,if_neg (by omega)]
theorem Aev (hc:c<N) (h:p c=i) (hi:∀ n,n<N→p n=i→n=c):(updP o f p N i).set c (f c)=updP o f p N (i+1):=by
 apply List.ext_getElem?
 intro n
 rw [List.getElem?_set]
 by_cases hn:n<N
 ·have e1:(updP o f p N (i+1))[n]?=some (if p n<i+1 then f n else o n):=by
   unfold updP;rw [List.getElem?_map,List.getElem?_range hn];rfl
  have e2:(updP o f p N i)[n]?=some (if p n<i then f n else o n):=by
   unfold updP;rw [List.getElem?_map,List.getElem?_range hn];rfl
  rw [e1]
  split
  ·rename_i h2
   subst h2
   rw [updP_len,if_pos hc,if_pos (by omega)]
  ·rename_i h2
   rw [e2]
   have:p n≠i:=fun hh=>h2 (hi n hn hh).symm
   by_cases h3:p n<i
   ·rw [if_pos h3,if_pos (by omega)]
   ·rw [if_neg h3,if_neg (by omega)]
 ·rw [if_neg (by omega),List.getElem?_eq_none (by simpa using hn),List.getElem?_eq_none (by simpa using hn)]
theorem Asf:updP o f p N 0=(List.range N).map o:=by simp [updP]
theorem AhO (h:∀ n,n<N→p n<i):updP o f p N i=(List.range N).map f:=List.map_congr_left fun n hn=>if_pos (h n (List.mem_range.1 hn))
theorem Acp (l:List UInt8) (n:Nat) (h:l.length=n):(List.range n).map (fun i=>l.getD i 0)=l:=by
 apply List.ext_getElem?
 intro i
 by_cases hi:i<n
 ·rw [List.getElem?_map,List.getElem?_range hi,AcU (l:=l) (d:=0) (by omega)];rfl
 ·rw [List.getElem?_eq_none (by simp;omega),List.getElem?_eq_none (by omega)]
end
abbrev trI (n:Nat):Nat:=4*(n%4)+n / 4
abbrev trF (X:List UInt8) (n:Nat):UInt8:=X.getD (trI n) 0
def trP (X:List UInt8):List UInt8:=(List.range 16).map (trF X)
@[simp] theorem ApF (X:List UInt8):(trP X).length=16:=by simp [trP]
theorem BA (X:List UInt8) (n:Nat) (h:n<16):(trP X).getD n 0=X.getD (trI n) 0:=AX h
theorem Aot (n:Nat) (h:n<16):trI n<16:=by unfold trI;omega
theorem Bcr (n:Nat) (h:n<16):trI (trI n)=n:=by unfold trI;omega
theorem tr_turn (X:List UInt8) (n:Nat) (h:n<16):trF (turnP X) n=boxL.getD ((trP X).getD (n / 4*4+(n%4+n / 4)%4) 0).toNat 0:=by
 rw [BA X _ (by omega),trF,turnP,AX (Aot n h),Bcp,bt]
 have:(trI n+4*(trI n%4))%16=trI (n / 4*4+(n%4+n / 4)%4):=by
  have e:∀ n,n<16→(trI n+4*(trI n%4))%16=trI (n / 4*4+(n%4+n / 4)%4):=by decide
  exact e n h
 rw [this]
 rfl
theorem tr_add (X W:List UInt8) (n:Nat) (h:n<16):trF (addP X W) n=UInt8.ofBitVec (((trP X).getD n 0).toBitVec ^^^ ((W.getD (trI n) 0)).toBitVec):=by
 rw [BA X _ h,trF,addP,AX (Aot n h)]
 rfl
theorem Bac (k:List UInt8) (r n:Nat) (hr:r≤10) (h:n<16):(blkP (Bz k) r).getD (trI n) 0=(wordB k (4*r+n%4)).getD (n / 4) 0:=by
 rw [Asd k _ _ (by omega),blkP,List.getD_eq_getElem?_getD,List.getElem?_take,if_pos (Aot n h),List.getElem?_drop,←List.getD_eq_getElem?_getD,Bz,AX (by have:=Aot n h;omega)]
 congr 1
 unfold trI;omega
theorem tr_mix0 (X:List UInt8) (c:Nat) (h:c<4):trF (mixP X) c=UInt8.ofBitVec (timesP ((trP X).getD c 0).toBitVec 2 ^^^ timesP ((trP X).getD (4+c) 0).toBitVec 3 ^^^ ((trP X).getD (8+c) 0).toBitVec ^^^ ((trP X).getD (12+c) 0).toBitVec):=by
 obtain rfl | rfl | rfl | rfl:c=0∨c=1∨c=2∨c=3:=by omega
 all_goals
  rw [BA X _ (by omega),BA X _ (by omega),BA X _ (by omega),BA X _ (by omega)]
  rfl
theorem tr_mix1 (X:List UInt8) (c:Nat) (h:c<4):trF (mixP X) (4+c)=UInt8.ofBitVec (((trP X).getD c 0).toBitVec ^^^ timesP ((trP X).getD (4+c) 0).toBitVec 2 ^^^ timesP ((trP X).getD (8+c) 0).toBitVec 3 ^^^ ((trP X).getD (12+c) 0).toBitVec):=by
 have e:∀ a b c d:BitVec 8,a ^^^ b ^^^ c ^^^ d=b ^^^ c ^^^ d ^^^ a:=fun a b c d=>by ac_rfl
 rw [e]
 obtain rfl | rfl | rfl | rfl:c=0∨c=1∨c=2∨c=3:=by omega
 all_goals
  rw [BA X _ (by omega),BA X _ (by omega),BA X _ (by omega),BA X _ (by omega)]
  rfl
theorem tr_mix2 (X:List UInt8) (c:Nat) (h:c<4):trF (mixP X) (8+c)=UInt8.ofBitVec (((trP X).getD c 0).toBitVec ^^^ ((trP X).getD (4+c) 0).toBitVec ^^^ timesP ((trP X).getD (8+c) 0).toBitVec 2 ^^^ timesP ((trP X).getD (12+c) 0).toBitVec 3):=by
 have e:∀ a b c d:BitVec 8,a ^^^ b ^^^ c ^^^ d=c ^^^ d ^^^ a ^^^ b:=fun a b c d=>by ac_rfl
 rw [e]
 obtain rfl | rfl | rfl | rfl:c=0∨c=1∨c=2∨c=3:=by omega
 all_goals
  rw [BA X _ (by omega),BA X _ (by omega),BA X _ (by omega),BA X _ (by omega)]
  rfl
theorem tr_mix3 (X:List UInt8) (c:Nat) (h:c<4):trF (mixP X) (12+c)=UInt8.ofBitVec (timesP ((trP X).getD c 0).toBitVec 3 ^^^ ((trP X).getD (4+c) 0).toBitVec ^^^ ((trP X).getD (8+c) 0).toBitVec ^^^ timesP ((trP X).getD (12+c) 0).toBitVec 2):=by
 have e:∀ a b c d:BitVec 8,a ^^^ b ^^^ c ^^^ d=d ^^^ a ^^^ b ^^^ c:=fun a b c d=>by ac_rfl
 rw [e]
 obtain rfl | rfl | rfl | rfl:c=0∨c=1∨c=2∨c=3:=by omega
 all_goals
  rw [BA X _ (by omega),BA X _ (by omega),BA X _ (by omega),BA X _ (by omega)]
  rfl
end Go.Eng.Ses
namespace Go.Eng.Ses
open Go Go.Eng
variable [Inhabited GlobT]
attribute [local irreducible] OpR TL TD TC TS Ak timesP rol8 boxL addP turnP mixP trP wordB
theorem ApG (X:List UInt8):(List.range 16).map (trF X)=trP X:=by unfold trP;rfl
theorem AyA (i:Nat) (h:i<16):trI (i%4*4+i / 4)=i:=by unfold trI;omega
theorem Bcs (a b:Nat) (ha:a<16) (hb:b<16) (h:trI a=trI b):a=b:=by
 rw [←Bcr a ha,←Bcr b hb,h]
theorem mix_sets {o f:Nat→UInt8} (c:Nat) (hc:c<4):((((updP o f trI 16 (4*c)).set c (f c)).set (4+c) (f (4+c))).set (8+c) (f (8+c))).set (12+c) (f (12+c))=updP o f trI 16 (4*(c+1)):=by
 have e:∀ r c,r<4→c<4→trI (4*r+c)=4*c+r:=by intro r c hr hc;unfold trI;omega
 have u:∀ r c,r<4→c<4→∀ n,n<16→trI n=4*c+r→n=4*r+c:=fun r c hr hc n hn h=>Bcs n _ hn (by omega) (by rw [h,e r c hr hc])
 have e0:=e 0 c (by omega) hc
 have e1:=e 1 c (by omega) hc
 have e2:=e 2 c (by omega) hc
 have e3:=e 3 c (by omega) hc
 have u0:=u 0 c (by omega) hc
 have u1:=u 1 c (by omega) hc
 have u2:=u 2 c (by omega) hc
 have u3:=u 3 c (by omega) hc
 simp only [Nat.mul_zero,Nat.zero_add,Nat.add_zero,Nat.mul_one] at e0 e1 u0 u1
 rw [Aev (c:=c) (by omega) e0 u0,Aev (c:=4+c) (by omega) e1 u1,Aev (c:=8+c) (by omega) e2 u2,Aev (c:=12+c) (by omega) e3 u3]
 rfl
theorem Bbf (k b:List UInt8) (i:Nat) (h:i<16):trF (addP b (blkP (Bz k) 0)) (i%4*4+i / 4)=UInt8.ofBitVec ((b.getD i 0).toBitVec ^^^ ((wordB k (i / 4)).getD (i%4) 0).toBitVec):=by
 rw [tr_add b _ _ (by omega),BA b _ (by omega),Bac k 0 _ (by omega) (by omega),AyA i h]
 rw [show 4*0+(i%4*4+i / 4)%4=i / 4 by omega,show (i%4*4+i / 4) / 4=i%4 by omega]
set_option maxHeartbeats 2000000 in
theorem by_ok (k b:List UInt8) (hk:k.length=16) (hb:b.length=16):Ak AP0 AzE [.imm (boxL.map fun b=>[g8 b]),.imm ((List.range 44).map fun w=>(wordB k w).map g8),.agg (b.map g8)] (.agg ((encP (Bz k) b).map g8)):=by
 have hbox:=AdO
 obtain⟨bx,hbx⟩:∃ bx,(boxL.map fun b=>[g8 b])=bx:=⟨_,rfl⟩
 have bget:∀ n,n<256→bx[n]?=some [g8 (boxL.getD n 0)]:=fun n h=>by
  rw [←hbx,List.getElem?_map,AcU (d:=0) (by omega)];rfl
 obtain⟨ws,hws⟩:∃ ws,((List.range 44).map fun w=>(wordB k w).map g8)=ws:=⟨_,rfl⟩
 have wget:∀ n,n<44→ws[n]?=some ((wordB k n).map g8):=fun n h=>by
  rw [←hws,List.getElem?_map,List.getElem?_range h];rfl
 rw [hbx,hws]
 clear hbx hws
 have hwl:=Bck k
 refine Al (af:=ArP) rfl rfl ?_
 refine tS (tO ?_);refine AH (Aek rfl (by simp;omega)) rfl rfl rfl rfl ?_;refine tR 1 rfl (tN ?_)
 refine tS (tO (tR 1 rfl (tN (tS (tS (tO ?_))))))
 refine tR 1 rfl (tN ?_)
 refine tB (lST (σ:=Nat) (fun i=>16 - i) (fun i=>[(0,.imm bx),(1,.imm ws),(5,.ptr 0 0 0),(6,.ptr 1 0 0),(7,.ptr 2 0 0),(8,n64 i)])
  (fun i S=>i≤16∧S=[some ⟨16,[b.map g8]⟩,some ⟨16,[zs .u8 16]⟩,some ⟨16,[(updP (fun _=>0) (trF (addP b (blkP (Bz k) 0))) trI 16 i).map g8]⟩]) 0 (by (repeat' (first | exact wN | refine wC rfl ?_))) ⟨by omega,rfl⟩ ?_)
 rintro i S ⟨hi,rfl⟩
 refine tS (tS (tO (tR 2 rfl (tN ?_))))
 refine tQ rfl decide_eq_true_iff (fun h=>tK ?_) (fun h=>tX ?_)
 ·have hi':i<16:=by omega
  refine tS ?_;refine tB ?_;refine tD0 rfl ?_;refine dR 1 rfl ?_;refine dP rfl rfl (Abh (b:=4) rfl rfl (by omega)) ?_
  refine dR 1 rfl ?_;refine dP rfl rfl (AsN (b:=4) rfl rfl (by omega) (AcV (by omega))) ?_;refine dR 1 rfl ?_
  refine dP rfl rfl (AM rfl rfl (by omega)) ?_;refine dP rfl rfl (AN 0 rfl rfl (by omega)) ?_;refine dR 2 rfl ?_
  refine dP rfl rfl (AsN (b:=4) rfl rfl (by omega) (AcV (by omega))) ?_;refine dR 1 rfl ?_
  refine dP rfl rfl (Abh (b:=4) rfl rfl (by omega)) ?_
  refine dP rfl rfl (Bl rfl rfl (wget (i / 4) (by omega)) (by simp [hwl])) ?_
  refine dP rfl rfl (AsP rfl rfl (by omega)) ?_;refine dP rfl rfl (Alm 0 rfl (by simp;omega)) ?_
  refine dP rfl rfl (oB rfl rfl (AC _ _)) ?_;refine dP rfl rfl (AoN rfl rfl (by omega)) ?_
  refine dP rfl rfl (Adf rfl rfl (by omega)) ?_;refine dP rfl rfl (Bu rfl rfl rfl (by simp;omega)) ?_;refine dN ?_;refine⟨rfl,?_⟩
  refine tO (tR 1 rfl ?_);refine tP (oA (b:=1) rfl rfl (by omega)) rfl rfl rfl rfl ?_;refine tR 1 rfl ?_
  refine tN ?_
  refine⟨i+1,by omega,by (repeat' (first | exact wN | refine wC rfl ?_)),by omega,?_⟩
  rw [←Aev (c:=i%4*4+i / 4) (by omega) (AyA i hi') (fun n hn h=>by rw [←AyA i hi'] at h;exact Bcs _ _ hn (by omega) h),Bbf k b i hi',Nat.mul_one]
  rfl
 ·have:i=16:=by omega
  subst this
  rw [AhO (fun n hn=>Aot n hn),ApG,show addP b (blkP (Bz k) 0)=encS (Bz k) b 0 from rfl]
  refine tS (tS (tO (tR 1 rfl (tN ?_))))
  refine tB (lST (σ:=Nat) (fun r=>10 - r) (fun r=>[(0,.imm bx),(1,.imm ws),(6,.ptr 1 0 0),(7,.ptr 2 0 0),(9,n64 (r+1))])
   (fun r S=>r≤10∧S[1]?=some (some ⟨16,[zs .u8 16]⟩)∧S[2]?=some (some ⟨16,[(trP (encS (Bz k) b r)).map g8]⟩)) 0 (by (repeat' (first | exact wN | refine wC rfl ?_))) ⟨by omega,rfl,rfl⟩ ?_)
  rintro r S ⟨hr,h1,h2⟩
  have hs:encS (Bz k) b (r+1)=addP (if r+1<10 then mixP (turnP (encS (Bz k) b r)) else turnP (encS (Bz k) b r)) (blkP (Bz k) (r+1)):=rfl
  generalize hX:encS (Bz k) b r=X at h2 hs ⊢
  have hXl:=ApF X
  refine tS (tS (tO (tR 2 rfl (tN ?_))))
  refine tQ rfl decide_eq_true_iff (fun h=>tK ?_) (fun h=>tX ?_)
  ·have hr':r<10:=by omega
   refine tS ?_;refine tB ?_;refine tS (tO ?_);refine AcP rfl rfl ?_;refine tN (tS ?_)
   refine tS (tO (tR 1 rfl (tN ?_)))
   have hq3:2<S.length:=(List.getElem?_eq_some_iff.1 h2).1
   obtain⟨T,hT⟩:∃ T,S++[some ⟨16,[(updP (fun _=>0) (trF (turnP X)) (fun n=>n) 16 (4*0)).map g8]⟩]=T:=⟨_,rfl⟩
   have t1:=hT▸AU (r:=[some ⟨16,[(updP (fun _=>0) (trF (turnP X)) (fun n=>n) 16 (4*0)).map g8]⟩]) h1
   have t2:=hT▸AU (r:=[some ⟨16,[(updP (fun _=>0) (trF (turnP X)) (fun n=>n) 16 (4*0)).map g8]⟩]) h2
   have tq:T[S.length]?=some (some ⟨16,[(updP (fun _=>0) (trF (turnP X)) (fun n=>n) 16 (4*0)).map g8]⟩):=hT▸AW
   show TC _ _ _ _ (S++[some ⟨16,[(updP (fun _=>0) (trF (turnP X)) (fun n=>n) 16 (4*0)).map g8]⟩]) _
   rw [hT]
   generalize S.length=q at hq3 tq ⊢
   clear hT h1 h2 S
   refine tB (lST (σ:=Nat) (fun a=>4 - a) (fun a=>[(0,.imm bx),(1,.imm ws),(6,.ptr 1 0 0),(7,.ptr 2 0 0),(9,n64 (r+1)),(10,.ptr q 0 0),(11,n64 a)])
    (fun a S=>a≤4∧S[1]?=some (some ⟨16,[zs .u8 16]⟩)∧S[2]?=some (some ⟨16,[(trP X).map g8]⟩)∧S[q]?=some (some ⟨16,[(updP (fun _=>0) (trF (turnP X)) (fun n=>n) 16 (4*a)).map g8]⟩)) 0 (by (repeat' (first | exact wN | refine wC rfl ?_))) ⟨by omega,t1,t2,tq⟩ ?_)
   clear t1 t2 tq T
   rintro a S ⟨ha,h1,h2,hq⟩
   refine tS (tS (tO (tR 2 rfl (tN ?_))))
   refine tQ rfl decide_eq_true_iff (fun h=>tK ?_) (fun h=>tX ?_)
   ·have ha':a<4:=by omega
    refine tS ?_;refine tB ?_;refine tS (tO (tR 1 rfl (tN ?_)))
    refine tB (lST (σ:=Nat) (fun c=>4 - c) (fun c=>[(0,.imm bx),(1,.imm ws),(6,.ptr 1 0 0),(7,.ptr 2 0 0),(9,n64 (r+1)),(10,.ptr q 0 0),(11,n64 a),(12,n64 c)])
     (fun c S=>c≤4∧S[1]?=some (some ⟨16,[zs .u8 16]⟩)∧S[2]?=some (some ⟨16,[(trP X).map g8]⟩)∧S[q]?=some (some ⟨16,[(updP (fun _=>0) (trF (turnP X)) (fun n=>n) 16 (4*a+c)).map g8]⟩)) 0 (by (repeat' (first | exact wN | refine wC rfl ?_))) ⟨by omega,h1,h2,hq⟩ ?_)
    clear h1 h2 hq S
    rintro c S ⟨hc,h1,h2,hq⟩
    refine tS (tS (tO (tR 2 rfl (tN ?_))))
    refine tQ rfl decide_eq_true_iff (fun h=>tK ?_) (fun h=>tX ?_)
    ·have hc':c<4:=by omega
     have hcell:=tr_turn X (4*a+c) (by omega)
     rw [show (4*a+c) / 4=a by omega,show (4*a+c)%4=c by omega] at hcell
     refine tS ?_;refine tB ?_;refine tD0 rfl ?_;refine dR 6 rfl ?_;refine dP rfl rfl (oA rfl rfl (by omega)) ?_
     refine dP rfl rfl (Abh (b:=4) rfl rfl (by omega)) ?_;refine dP rfl rfl (AoN rfl rfl (by omega)) ?_
     refine dP rfl rfl (Adf rfl rfl (by omega)) ?_;refine dP rfl rfl (AN 0 rfl h2 (by omega)) ?_
     refine dP rfl rfl (Bl rfl rfl (bget _ (UInt8.toNat_lt _)) rfl) ?_
     refine dR 1 rfl ?_;refine dP rfl rfl (AoN rfl rfl (by omega)) ?_;refine dP rfl rfl (Adf rfl rfl (by omega)) ?_
     refine dP rfl rfl (Bu rfl rfl hq (by simp;omega)) ?_;refine dN ?_;refine⟨rfl,?_⟩;refine tO (tR 1 rfl ?_)
     refine tP (oA (b:=1) rfl rfl (by omega)) rfl rfl rfl rfl ?_;refine tR 1 rfl (tN ?_)
     refine⟨c+1,by omega,by (repeat' (first | exact wN | refine wC rfl ?_)),by omega,Aw (by omega) h1,Aw (by omega) h2,(Ax hq).trans ?_⟩
     rw [←Nat.add_assoc,←Aev (c:=4*a+c) (by omega) rfl (fun n _ h=>h),hcell]
     rw [show a*4+c*1=4*a+c by omega,show (c+a)%4*1=(c+a)%4 by omega]
    ·have:c=4:=by omega
     subst this
     refine tO (tR 1 rfl ?_);refine tP (oA (b:=1) rfl rfl (by omega)) rfl rfl rfl rfl ?_;refine tR 1 rfl ?_
     refine tN ?_
     exact⟨a+1,by omega,by (repeat' (first | exact wN | refine wC rfl ?_)),by omega,h1,h2,hq⟩
   ·have:a=4:=by omega
    subst this
    rw [AhO (fun n hn=>hn),ApG] at hq
    clear h
    refine tc_cut (σ:=List UInt8) (fun Y=>[(0,.imm bx),(1,.imm ws),(6,.ptr 1 0 0),(7,.ptr 2 0 0),(9,n64 (r+1)),(10,.ptr q 0 0)])
     (fun Y S=>encS (Bz k) b (r+1)=addP Y (blkP (Bz k) (r+1))∧S[1]?=some (some ⟨16,[zs .u8 16]⟩)∧S[2]?=some (some ⟨16,[(trP X).map g8]⟩)∧S[q]?=some (some ⟨16,[(trP Y).map g8]⟩)) ?_ ?_
    ·generalize hY:turnP X=Y at hq hs
     have hYl:=ApF Y
     refine tS (tO (tR 2 rfl (tN ?_)))
     refine tQ rfl decide_eq_true_iff (fun h=>?_) (fun h=>tK ?_)
     ·rw [if_pos (by omega)] at hs
      refine tS (tO (tR 1 rfl (tN ?_)))
      have hq0:S[q]?=some (some ⟨16,[(updP (fun n=>(trP Y).getD n 0) (trF (mixP Y)) trI 16 (4*0)).map g8]⟩):=by
       rw [hq,Asf,Acp _ 16 hYl]
      refine tB (lST (σ:=Nat) (fun c=>4 - c) (fun c=>[(0,.imm bx),(1,.imm ws),(6,.ptr 1 0 0),(7,.ptr 2 0 0),(9,n64 (r+1)),(10,.ptr q 0 0),(13,n64 c)])
       (fun c S=>c≤4∧S[1]?=some (some ⟨16,[zs .u8 16]⟩)∧S[2]?=some (some ⟨16,[(trP X).map g8]⟩)∧S[q]?=some (some ⟨16,[(updP (fun n=>(trP Y).getD n 0) (trF (mixP Y)) trI 16 (4*c)).map g8]⟩)) 0 (by (repeat' (first | exact wN | refine wC rfl ?_))) ⟨by omega,h1,h2,hq0⟩ ?_)
      clear h1 h2 hq hq0 S
      rintro c S ⟨hc,h1,h2,hq⟩
      refine tS (tS (tO (tR 2 rfl (tN ?_))))
      refine tQ rfl decide_eq_true_iff (fun h=>tK ?_) (fun h=>tX ?_)
      ·have hc':c<4:=by omega
       have o0:(updP (fun n=>(trP Y).getD n 0) (trF (mixP Y)) trI 16 (4*c)).getD c 0=(trP Y).getD c 0:=Ald (by omega) (by unfold trI;omega)
       have o1:(updP (fun n=>(trP Y).getD n 0) (trF (mixP Y)) trI 16 (4*c)).getD (4+c) 0=(trP Y).getD (4+c) 0:=Ald (by omega) (by unfold trI;omega)
       have o2:(updP (fun n=>(trP Y).getD n 0) (trF (mixP Y)) trI 16 (4*c)).getD (8+c) 0=(trP Y).getD (8+c) 0:=Ald (by omega) (by unfold trI;omega)
       have o3:(updP (fun n=>(trP Y).getD n 0) (trF (mixP Y)) trI 16 (4*c)).getD (12+c) 0=(trP Y).getD (12+c) 0:=Ald (by omega) (by unfold trI;omega)
       have m0:=tr_mix0 Y c hc'
       have m1:=tr_mix1 Y c hc'
       have m2:=tr_mix2 Y c hc'
       have m3:=tr_mix3 Y c hc'
       have n1:0+Int.toNat 1*4+c*1=4+c:=by show 0+1*4+c*1=_;omega
       have n2:0+Int.toNat 2*4+c*1=8+c:=by show 0+2*4+c*1=_;omega
       have n3:0+Int.toNat 3*4+c*1=12+c:=by show 0+3*4+c*1=_;omega
       refine tS ?_;refine tB ?_;refine tS ?_;refine tD0 rfl ?_;refine dR 2 rfl ?_
       refine dP rfl rfl (AM rfl rfl (by omega)) ?_;refine dP rfl rfl (AN 0 rfl hq (by simp;omega)) ?_;refine dR 2 rfl ?_
       refine dP rfl rfl (Adf rfl rfl (by omega)) ?_;refine dP rfl rfl (AN 0 rfl hq (by simp;omega)) ?_;refine dR 2 rfl ?_
       refine dP rfl rfl (Adf rfl rfl (by omega)) ?_;refine dP rfl rfl (AN 0 rfl hq (by simp;omega)) ?_;refine dR 2 rfl ?_
       refine dP rfl rfl (Adf rfl rfl (by omega)) ?_;refine dP rfl rfl (AN 0 rfl hq (by simp;omega)) ?_;refine dR 4 rfl ?_
       refine dN ?_;refine⟨rfl,?_⟩;refine tS (tO (tR 2 rfl ?_))
       refine tC rfl rfl (AaR _ 2) rfl rfl rfl rfl rfl rfl ?_;refine tR 1 rfl ?_
       refine tC rfl rfl (AaR _ 3) rfl rfl rfl rfl rfl rfl ?_;refine tP (oB rfl rfl (AC _ _)) rfl rfl rfl rfl ?_
       refine tR 1 rfl ?_;refine tP (oB rfl rfl (AC _ _)) rfl rfl rfl rfl ?_;refine tR 1 rfl ?_
       refine tP (oB rfl rfl (AC _ _)) rfl rfl rfl rfl ?_;refine tR 1 rfl ?_;refine tP (AM rfl rfl (by omega)) rfl rfl rfl rfl ?_
       refine tP (Bu rfl rfl hq (by simp;omega)) rfl rfl rfl rfl ?_;refine tN (tS (tO (tR 3 rfl ?_)))
       refine tC rfl rfl (AaR _ 2) rfl rfl rfl rfl rfl rfl ?_;refine tP (oB rfl rfl (AC _ _)) rfl rfl rfl rfl ?_
       refine tR 1 rfl ?_;refine tC rfl rfl (AaR _ 3) rfl rfl rfl rfl rfl rfl ?_
       refine tP (oB rfl rfl (AC _ _)) rfl rfl rfl rfl ?_;refine tR 1 rfl ?_;refine tP (oB rfl rfl (AC _ _)) rfl rfl rfl rfl ?_
       refine tR 1 rfl ?_;refine tP (Adf rfl rfl (by omega)) rfl rfl rfl rfl ?_
       refine tP (Bu rfl rfl (Ax hq) (by simp;omega)) rfl rfl rfl rfl ?_;refine tN (tS (tO ?_))
       refine tR 3 rfl ?_;refine tP (oB rfl rfl (AC _ _)) rfl rfl rfl rfl ?_;refine tR 1 rfl ?_
       refine tC rfl rfl (AaR _ 2) rfl rfl rfl rfl rfl rfl ?_;refine tP (oB rfl rfl (AC _ _)) rfl rfl rfl rfl ?_
       refine tR 1 rfl ?_;refine tC rfl rfl (AaR _ 3) rfl rfl rfl rfl rfl rfl ?_
       refine tP (oB rfl rfl (AC _ _)) rfl rfl rfl rfl ?_;refine tR 1 rfl ?_;refine tP (Adf rfl rfl (by omega)) rfl rfl rfl rfl ?_
       refine tP (Bu rfl rfl (Ax (Ax hq)) (by simp;omega)) rfl rfl rfl rfl ?_;refine tN (tO ?_)
       refine tR 2 rfl ?_;refine tC rfl rfl (AaR _ 3) rfl rfl rfl rfl rfl rfl ?_;refine tR 1 rfl ?_
       refine tP (oB rfl rfl (AC _ _)) rfl rfl rfl rfl ?_;refine tR 1 rfl ?_;refine tP (oB rfl rfl (AC _ _)) rfl rfl rfl rfl ?_
       refine tR 1 rfl ?_;refine tC rfl rfl (AaR _ 2) rfl rfl rfl rfl rfl rfl ?_
       refine tP (oB rfl rfl (AC _ _)) rfl rfl rfl rfl ?_;refine tR 1 rfl ?_;refine tP (Adf rfl rfl (by omega)) rfl rfl rfl rfl ?_
       refine tP (Bu rfl rfl (Ax (Ax (Ax hq))) (by simp;omega)) rfl rfl rfl rfl ?_;refine tN (tO ?_)
       refine tR 1 rfl ?_;refine tP (oA (b:=1) rfl rfl (by omega)) rfl rfl rfl rfl ?_;refine tR 1 rfl (tN ?_)
       refine⟨c+1,by omega,by (repeat' (first | exact wN | refine wC rfl ?_)),by omega,Aw (by omega) (Aw (by omega) (Aw (by omega) (Aw (by omega) h1))),Aw (by omega) (Aw (by omega) (Aw (by omega) (Aw (by omega) h2))),(Ax (Ax (Ax (Ax hq)))).trans ?_⟩
       rw [n1,n2,n3,←mix_sets c hc',m0,m1,m2,m3,←o0,←o1,←o2,←o3]
      ·have:c=4:=by omega
       subst this
       rw [AhO (fun n hn=>Aot n hn),ApG] at hq
       exact⟨mixP Y,by (repeat' (first | exact wN | refine wC rfl ?_)),hs,h1,h2,hq⟩
     ·rw [if_neg (by omega)] at hs
      exact⟨Y,by (repeat' (first | exact wN | refine wC rfl ?_)),hs,h1,h2,hq⟩
    ·rintro Y S ⟨hs,h1,h2,hq⟩
     have hYl:=ApF Y
     refine tS (tO (tR 1 rfl (tN ?_)))
     have hZ0:S[2]?=some (some ⟨16,[(updP (fun n=>(trP X).getD n 0) (trF (addP Y (blkP (Bz k) (r+1)))) (fun n=>n) 16 (4*0)).map g8]⟩):=by
      rw [h2,Asf,Acp _ 16 hXl]
     refine tB (lST (σ:=Nat) (fun a=>4 - a) (fun a=>[(0,.imm bx),(1,.imm ws),(6,.ptr 1 0 0),(7,.ptr 2 0 0),(9,n64 (r+1)),(10,.ptr q 0 0),(18,n64 a)])
      (fun a S=>a≤4∧S[1]?=some (some ⟨16,[zs .u8 16]⟩)∧S[q]?=some (some ⟨16,[(trP Y).map g8]⟩)∧S[2]?=some (some ⟨16,[(updP (fun n=>(trP X).getD n 0) (trF (addP Y (blkP (Bz k) (r+1)))) (fun n=>n) 16 (4*a)).map g8]⟩)) 0 (by (repeat' (first | exact wN | refine wC rfl ?_))) ⟨by omega,h1,hq,hZ0⟩ ?_)
     clear h1 h2 hq hZ0 S
     rintro a S ⟨ha,h1,hq,h2⟩
     refine tS (tS (tO (tR 2 rfl (tN ?_))))
     refine tQ rfl decide_eq_true_iff (fun h=>tK ?_) (fun h=>tX ?_)
     ·have ha':a<4:=by omega
      refine tS (tB ?_)
      refine tS (tO (tR 1 rfl (tN ?_)))
      refine tB (lST (σ:=Nat) (fun c=>4 - c) (fun c=>[(0,.imm bx),(1,.imm ws),(6,.ptr 1 0 0),(7,.ptr 2 0 0),(9,n64 (r+1)),(10,.ptr q 0 0),(18,n64 a),(19,n64 c)])
       (fun c S=>c≤4∧S[1]?=some (some ⟨16,[zs .u8 16]⟩)∧S[q]?=some (some ⟨16,[(trP Y).map g8]⟩)∧S[2]?=some (some ⟨16,[(updP (fun n=>(trP X).getD n 0) (trF (addP Y (blkP (Bz k) (r+1)))) (fun n=>n) 16 (4*a+c)).map g8]⟩)) 0 (by (repeat' (first | exact wN | refine wC rfl ?_))) ⟨by omega,h1,hq,h2⟩ ?_)
      clear h1 h2 hq S
      rintro c S ⟨hc,h1,hq,h2⟩
      refine tS (tS (tO (tR 2 rfl (tN ?_))))
      refine tQ rfl decide_eq_true_iff (fun h=>tK ?_) (fun h=>tX ?_)
      ·have hc':c<4:=by omega
       have hcell:=tr_add Y (blkP (Bz k) (r+1)) (4*a+c) (by omega)
       rw [Bac k (r+1) _ (by omega) (by omega),show (4*a+c) / 4=a by omega,show (4*a+c)%4=c by omega] at hcell
       refine tS ?_;refine tB ?_;refine tD0 rfl ?_;refine dR 4 rfl ?_;refine dP rfl rfl (AoN rfl rfl (by omega)) ?_
       refine dP rfl rfl (Adf rfl rfl (by omega)) ?_;refine dP rfl rfl (AN 0 rfl hq (by omega)) ?_;refine dR 2 rfl ?_
       refine dP rfl rfl (AkF (a:=4) rfl rfl (by omega)) ?_;refine dR 1 rfl ?_;refine dP rfl rfl (oA rfl rfl (by omega)) ?_
       refine dR 1 rfl ?_
       refine dP rfl rfl (Bl rfl rfl (wget (4*(r+1)+c) (by omega)) (by simp [hwl])) ?_
       refine dP rfl rfl (AsP rfl rfl (by omega)) ?_;refine dP rfl rfl (Alm 0 rfl (by simp;omega)) ?_
       refine dP rfl rfl (oB rfl rfl (AC _ _)) ?_;refine dP rfl rfl (AoN rfl rfl (by omega)) ?_
       refine dP rfl rfl (Adf rfl rfl (by omega)) ?_;refine dP rfl rfl (Bu rfl rfl h2 (by simp;omega)) ?_;refine dN ?_;refine⟨rfl,?_⟩
       refine tO (tR 1 rfl ?_);refine tP (oA (b:=1) rfl rfl (by omega)) rfl rfl rfl rfl ?_;refine tR 1 rfl ?_
       refine tN ?_
       refine⟨c+1,by omega,by (repeat' (first | exact wN | refine wC rfl ?_)),by omega,Aw (by omega) h1,Aw (by omega) hq,(Ax h2).trans ?_⟩
       rw [←Nat.add_assoc,←Aev (c:=4*a+c) (by omega) rfl (fun n _ h=>h),hcell,show a*4+c*1=4*a+c by omega]
      ·have:c=4:=by omega
       subst this
       refine tO (tR 1 rfl ?_);refine tP (oA (b:=1) rfl rfl (by omega)) rfl rfl rfl rfl ?_;refine tR 1 rfl ?_
       refine tN ?_
       exact⟨a+1,by omega,by (repeat' (first | exact wN | refine wC rfl ?_)),by omega,h1,hq,h2⟩
     ·have:a=4:=by omega
      subst this
      rw [AhO (fun n hn=>hn),ApG,←hs] at h2
      refine tO (tR 1 rfl ?_);refine tP (oA (b:=1) rfl rfl (by omega)) rfl rfl rfl rfl ?_;refine tR 1 rfl ?_
      refine tN ?_
      exact⟨r+1,by omega,by (repeat' (first | exact wN | refine wC rfl ?_)),by omega,h1,h2⟩
  ·have:r=10:=by omega
   subst this
   rw [show X=encP (Bz k) b from hX.symm] at h2
   have hel:(encP (Bz k) b).length=16:=Aqx _ _ 10
   have heg:∀ i,i<16→(trP (encP (Bz k) b)).getD (i%4*4+i / 4) 0=(encP (Bz k) b).getD i 0:=fun i hi=>by
    rw [BA _ _ (by omega),AyA i hi]
   have hxl:=ApF (encP (Bz k) b)
   have hres:(List.range 16).map (fun i=>(encP (Bz k) b).getD i 0)=encP (Bz k) b:=Acp _ 16 hel
   clear hs hX hXl
   generalize encP (Bz k) b=E at h2 hel heg hxl hres ⊢
   refine tS (tO ?_);refine AcP rfl rfl ?_;refine tN (tS (tS (tO ?_)))
   refine tR 1 rfl (tN ?_)
   have hq3:2<S.length:=(List.getElem?_eq_some_iff.1 h2).1
   obtain⟨T,hT⟩:∃ T,S++[some ⟨16,[(fillA 0 (fun i=>E.getD i 0) 16 0).map g8]⟩]=T:=⟨_,rfl⟩
   have t1:=hT▸AU (r:=[some ⟨16,[(fillA 0 (fun i=>E.getD i 0) 16 0).map g8]⟩]) h1
   have t2:=hT▸AU (r:=[some ⟨16,[(fillA 0 (fun i=>E.getD i 0) 16 0).map g8]⟩]) h2
   have tq:T[S.length]?=some (some ⟨16,[(fillA 0 (fun i=>E.getD i 0) 16 0).map g8]⟩):=hT▸AW
   show TC _ _ _ _ (S++[some ⟨16,[(fillA 0 (fun i=>E.getD i 0) 16 0).map g8]⟩]) _
   rw [hT]
   generalize S.length=q at hq3 tq ⊢
   clear hT h1 h2 S
   refine tB (lST (σ:=Nat) (fun i=>16 - i) (fun i=>[(6,.ptr 1 0 0),(7,.ptr 2 0 0),(20,.ptr q 0 0),(21,n64 i)])
    (fun i S=>i≤16∧S[1]?=some (some ⟨16,[zs .u8 16]⟩)∧S[2]?=some (some ⟨16,[(trP E).map g8]⟩)∧S[q]?=some (some ⟨16,[(fillA 0 (fun i=>E.getD i 0) 16 i).map g8]⟩)) 0 (by (repeat' (first | exact wN | refine wC rfl ?_))) ⟨by omega,t1,t2,tq⟩ ?_)
   clear t1 t2 tq T
   rintro i S ⟨hi,h1,h2,hq⟩
   refine tS (tS (tO (tR 2 rfl (tN ?_))))
   refine tQ rfl decide_eq_true_iff (fun h=>tK ?_) (fun h=>tX ?_)
   ·have hi':i<16:=by omega
    have he:=heg i hi'
    refine tS ?_;refine tB ?_;refine tO (tR 2 rfl ?_);refine tP (Abh (b:=4) rfl rfl (by omega)) rfl rfl rfl rfl ?_
    refine tR 1 rfl ?_;refine tP (AsN (b:=4) rfl rfl (by omega) (AcV (by omega))) rfl rfl rfl rfl ?_
    refine tP (AoN rfl rfl (by omega)) rfl rfl rfl rfl ?_;refine tP (Adf rfl rfl (by omega)) rfl rfl rfl rfl ?_
    refine tP (AN 0 rfl h2 (by omega)) rfl rfl rfl rfl ?_;refine tP (AM rfl rfl (by omega)) rfl rfl rfl rfl ?_
    refine tP (Bu rfl rfl hq (by simp;omega)) rfl rfl rfl rfl ?_;refine tN (tO (tR 1 rfl ?_))
    refine tP (oA (b:=1) rfl rfl (by omega)) rfl rfl rfl rfl ?_;refine tR 1 rfl (tN ?_)
    refine⟨i+1,by omega,by (repeat' (first | exact wN | refine wC rfl ?_)),by omega,Aw (by omega) h1,Aw (by omega) h2,(Ax hq).trans ?_⟩
    rw [Nat.mul_one,he,←Bh hi']
   ·have:i=16:=by omega
    subst this
    rw [Bw,hres] at hq
    refine tS (tO ?_)
    refine tP (oLW rfl hq (by simp [hel])) rfl rfl rfl rfl ?_
    refine tP (AL rfl rfl h1 rfl (by simp [hel]) (aSm (fun _=>rfl) _)) rfl rfl rfl rfl ?_
    refine tN (tT (Acr (sz':=16) rfl (Ax h1) (by simp [hel]) (cLm (fun _=>rfl) _)))
end Go.Eng.Ses
