/- The block cipher is proved; no condition. -/
import Derived.Test.YtiggilmfehhgaaaGreatDoorC2
set_option linter.unusedSectionVars false
set_option linter.unusedVariables false
set_option linter.unusedSimpArgs false
set_option linter.unnecessarySimpa false
namespace Go.Eng.Ses
open Go Go.Eng
variable [Inhabited GlobT]
attribute [local irreducible] OpR TL TD TC TS Aaz
theorem bv_one (x:BitVec 8):((x.toNat:Int)=1)↔x=1#8 :=
 ⟨fun h=>BitVec.eq_of_toNat_eq (by rw [show (1#8).toNat=1 from rfl];omega),fun h=>by rw [h];rfl⟩
def AkP:Nat→BitVec 8→BitVec 8→BitVec 8→BitVec 8
 | 0,p,_,_=>p
 | n+1,p,a,b=>AkP n (if b &&& 1#8=1#8 then p ^^^ a else p) (a <<< 1 ^^^ a >>> 7*27) (b >>> 1)
def timesP (a b:BitVec 8):BitVec 8:=AkP 8 0 a b
theorem Amd:∀ (n:Nat) (p a:BitVec 8),AkP n p a 0=p
 | 0,_,_=>rfl
 | n+1,p,a=>by
   rw [AkP,if_neg (by decide),show (0:BitVec 8) >>> 1=0 from rfl,Amd n]
theorem AiN (a b:BitVec 8):Aaz AP0 Adc [w8 a,w8 b] (w8 (timesP a b)):=by
 obtain⟨R,hR⟩:∃ R,timesP a b=R:=⟨_,rfl⟩
 rw [hR]
 unfold timesP at hR
 refine Aav (af:=AiE) rfl rfl ?_
 refine Aab (Aad (Aaa 1 rfl (Aac (Aab (Aad (Aaa 1 rfl ?_))))))
 refine Aac (Aab ?_)
 refine Aak (AaE (σ:=Nat × BitVec 8 × BitVec 8 × BitVec 8) (fun s=>s.1) (fun s=>[(0,w8 s.2.2.1),(1,w8 s.2.2.2),(5,w8 s.2.1)])
  (fun s S=>s.2.2.2.toNat<2^s.1∧AkP s.1 s.2.1 s.2.2.1 s.2.2.2=R∧S=[]) (8,0,a,b) (by (repeat' (first | exact Aan | refine Aah rfl ?_))) ⟨b.isLt,hR,rfl⟩ ?_)
 rintro⟨n,p,a,b⟩ S ⟨hb,hr,rfl⟩
 dsimp only at *
 clear hR
 refine Aab (Aab (Aad (Aaa 2 rfl (Aac ?_))))
 refine Aar rfl decide_eq_true_iff (fun h=>Aao ?_) (fun h=>AaA ?_)
 ·obtain⟨n,rfl⟩:∃ k,n=k+1:=⟨n - 1,by
   cases n with
   | zero=>simp at hb;omega
   | succ n=>rfl⟩
  have hb2:(b >>> 1).toNat<2^n:=by
   rw [BitVec.toNat_ushiftRight,Nat.shiftRight_eq_div_pow]
   rw [Nat.pow_succ] at hb
   omega
  rw [AkP] at hr
  refine Aab ?_;refine Aak ?_;refine Aab (Aab (Aad (Aaa 1 rfl ?_)))
  refine Aae (Aas rfl rfl (band_u8 _ (1#8))) rfl rfl rfl rfl ?_;refine Aaa 1 rfl (Aac ?_)
  refine AiP [(0,w8 a),(1,w8 b),(5,w8 (if b &&& 1#8=1#8 then p ^^^ a else p))] [] ?_ ?_
  ·refine Aar rfl beq_iff_eq (fun h=>?_) (fun h=>Aao ?_)
   ·rw [if_pos ((bv_one _).1 h)]
    refine Aad (Aaa 2 rfl ?_);refine Aae (Aas rfl rfl (AaW _ _)) rfl rfl rfl rfl ?_;refine Aaa 1 rfl (Aac ?_)
    exact⟨by (repeat' (first | exact Aan | refine Aah rfl ?_)),rfl⟩
   ·rw [if_neg (fun h2=>h ((bv_one _).2 h2))]
    exact⟨by (repeat' (first | exact Aan | refine Aah rfl ?_)),rfl⟩
  refine Aab (Aad (Aaa 1 rfl ?_));refine Aae (Aas rfl rfl (AkG _ 7)) rfl rfl rfl rfl ?_;refine Aaa 1 rfl ?_
  refine Aac (Aad (Aaa 1 rfl ?_));refine Aae (Aas rfl rfl (bshl_u8 _ 1)) rfl rfl rfl rfl ?_;refine Aaa 1 rfl ?_
  refine Aae (Aas rfl rfl (bmul_u8 _ (27#8))) rfl rfl rfl rfl ?_;refine Aae (Aas rfl rfl (AaW _ _)) rfl rfl rfl rfl ?_
  refine Aaa 1 rfl (Aac (Aad (Aaa 1 rfl ?_)));refine Aae (Aas rfl rfl (AkG _ 1)) rfl rfl rfl rfl ?_
  refine Aaa 1 rfl (Aac ?_)
  exact⟨(n,_,_,_),Nat.lt_succ_self n,by (repeat' (first | exact Aan | refine Aah rfl ?_)),hb2,hr,rfl⟩
 ·have:b=0:=BitVec.eq_of_toNat_eq (by simp;omega)
  subst this
  rw [Amd] at hr
  subst hr
  refine Aab (Aad (Aaa 2 rfl (Aac ?_)));exact AaD (retd rfl ⟨_,AaJ rfl⟩)
def rol8 (x:BitVec 8) (n:Nat):BitVec 8:=x <<< n ||| x >>> (8 - n)
theorem rol1 (x:BitVec 8):Aaz AP0 Abi [w8 x,.int .i64 1] (w8 (rol8 x 1)):=by
 refine Aav (af:=AaZ) rfl rfl ?_
 refine Aab (Aad (Aaa 1 rfl (Aac (Aab (Aad (Aaa 1 rfl ?_))))))
 refine Aae (Ang (r:=1) rfl (by decide)) rfl rfl rfl rfl ?_;refine Aae (Aas (v := .int .u64 1) rfl rfl rfl) rfl rfl rfl rfl ?_
 refine Aaa 1 rfl (Aac (Aab (Aad (Aaa 2 rfl ?_))))
 refine Aae (Aas rfl rfl (bshl_u8 _ 1)) rfl rfl rfl rfl ?_;refine Aaa 2 rfl ?_
 refine Aae (Aas (v := .int .u64 7) rfl rfl rfl) rfl rfl rfl rfl ?_;refine Aae (Aas rfl rfl (AkG _ 7)) rfl rfl rfl rfl ?_
 refine Aae (Aas rfl rfl (bor_u8 _ _)) rfl rfl rfl rfl ?_;refine Aaa 1 rfl (Aac ?_);exact AaD (retd rfl ⟨_,AaJ rfl⟩)
theorem rol2 (x:BitVec 8):Aaz AP0 Abi [w8 x,.int .i64 2] (w8 (rol8 x 2)):=by
 refine Aav (af:=AaZ) rfl rfl ?_
 refine Aab (Aad (Aaa 1 rfl (Aac (Aab (Aad (Aaa 1 rfl ?_))))))
 refine Aae (Ang (r:=2) rfl (by decide)) rfl rfl rfl rfl ?_;refine Aae (Aas (v := .int .u64 2) rfl rfl rfl) rfl rfl rfl rfl ?_
 refine Aaa 1 rfl (Aac (Aab (Aad (Aaa 2 rfl ?_))))
 refine Aae (Aas rfl rfl (bshl_u8 _ 2)) rfl rfl rfl rfl ?_;refine Aaa 2 rfl ?_
 refine Aae (Aas (v := .int .u64 6) rfl rfl rfl) rfl rfl rfl rfl ?_;refine Aae (Aas rfl rfl (AkG _ 6)) rfl rfl rfl rfl ?_
 refine Aae (Aas rfl rfl (bor_u8 _ _)) rfl rfl rfl rfl ?_;refine Aaa 1 rfl (Aac ?_);exact AaD (retd rfl ⟨_,AaJ rfl⟩)
theorem rol3 (x:BitVec 8):Aaz AP0 Abi [w8 x,.int .i64 3] (w8 (rol8 x 3)):=by
 refine Aav (af:=AaZ) rfl rfl ?_
 refine Aab (Aad (Aaa 1 rfl (Aac (Aab (Aad (Aaa 1 rfl ?_))))))
 refine Aae (Ang (r:=3) rfl (by decide)) rfl rfl rfl rfl ?_;refine Aae (Aas (v := .int .u64 3) rfl rfl rfl) rfl rfl rfl rfl ?_
 refine Aaa 1 rfl (Aac (Aab (Aad (Aaa 2 rfl ?_))))
 refine Aae (Aas rfl rfl (bshl_u8 _ 3)) rfl rfl rfl rfl ?_;refine Aaa 2 rfl ?_
 refine Aae (Aas (v := .int .u64 5) rfl rfl rfl) rfl rfl rfl rfl ?_;refine Aae (Aas rfl rfl (AkG _ 5)) rfl rfl rfl rfl ?_
 refine Aae (Aas rfl rfl (bor_u8 _ _)) rfl rfl rfl rfl ?_;refine Aaa 1 rfl (Aac ?_);exact AaD (retd rfl ⟨_,AaJ rfl⟩)
theorem rol4 (x:BitVec 8):Aaz AP0 Abi [w8 x,.int .i64 4] (w8 (rol8 x 4)):=by
 refine Aav (af:=AaZ) rfl rfl ?_
 refine Aab (Aad (Aaa 1 rfl (Aac (Aab (Aad (Aaa 1 rfl ?_))))))
 refine Aae (Ang (r:=4) rfl (by decide)) rfl rfl rfl rfl ?_;refine Aae (Aas (v := .int .u64 4) rfl rfl rfl) rfl rfl rfl rfl ?_
 refine Aaa 1 rfl (Aac (Aab (Aad (Aaa 2 rfl ?_))))
 refine Aae (Aas rfl rfl (bshl_u8 _ 4)) rfl rfl rfl rfl ?_;refine Aaa 2 rfl ?_
 refine Aae (Aas (v := .int .u64 4) rfl rfl rfl) rfl rfl rfl rfl ?_;refine Aae (Aas rfl rfl (AkG _ 4)) rfl rfl rfl rfl ?_
 refine Aae (Aas rfl rfl (bor_u8 _ _)) rfl rfl rfl rfl ?_;refine Aaa 1 rfl (Aac ?_);exact AaD (retd rfl ⟨_,AaJ rfl⟩)
def boxC (q:BitVec 8):BitVec 8:=q ^^^ rol8 q 1 ^^^ rol8 q 2 ^^^ rol8 q 3 ^^^ rol8 q 4
def boxT (s:BitVec 8 × BitVec 8 × List UInt8):BitVec 8 × BitVec 8 × List UInt8 :=
 let p:=timesP s.1 3
 let q:=timesP s.2.1 0xf6
 (p,q,s.2.2.set p.toNat (UInt8.ofBitVec (boxC q ^^^ 0x63)))
def boxS:Nat→BitVec 8 × BitVec 8 × List UInt8
 | 0=>(1,1,(List.replicate 256 (0:UInt8)).set 0 0x63)
 | k+1=>boxT (boxS k)
theorem boxS_len:∀ k,(boxS k).2.2.length=256
 | 0=>by simp only [boxS,List.length_set,List.length_replicate]
 | k+1=>by simp only [boxS,boxT,List.length_set];exact boxS_len k
def orbit:Nat→BitVec 8→List (BitVec 8)
 | 0,_=>[]
 | n+1,p=>timesP p 3::orbit n (timesP p 3)
theorem boxS_orbit:∀ (n k j:Nat),j<n→(orbit n (boxS k).1)[j]?=some (boxS (k+j+1)).1
 | 0,_,_,h=>by omega
 | n+1,k,0,_=>rfl
 | n+1,k,j+1,h=>by
   have:=boxS_orbit n (k+1) j (by omega)
   rw [show k+(j+1)+1=k+1+j+1 by omega]
   exact this
def lastOk:List (BitVec 8)→Bool
 | []=>false
 | [p]=>p == 1
 | p::q::l=>p != 1 && lastOk (q::l)
theorem orbit_ok:lastOk (orbit 255 1)=true:=by kernel_rfl
theorem lastOk_at:∀ (l:List (BitVec 8)),lastOk l=true→∀ (j:Nat) (p:BitVec 8),l[j]?=some p→(p=1↔j+1=l.length)
 | [],h,_,_,_=>by cases h
 | [p],h,0,q,hq=>by simp at hq;subst hq;simpa [lastOk] using h
 | [p],h,j+1,q,hq=>by simp at hq
 | p::q::l,h,0,r,hr=>by
   simp at hr;subst hr
   simp [lastOk] at h
   simp [h.1]
 | p::q::l,h,j+1,r,hr=>by
   simp only [lastOk,Bool.and_eq_true] at h
   have:=lastOk_at (q::l) h.2 j r (by simpa using hr)
   rw [this];simp
theorem orbit_len:∀ n p,(orbit n p).length=n
 | 0,_=>rfl
 | n+1,p=>by simp [orbit,orbit_len n]
theorem boxS_one (k:Nat) (h:k<255):(boxS (k+1)).1=1↔k=254:=by
 have h1:=boxS_orbit 255 0 k h
 have h2:=lastOk_at _ orbit_ok k _ h1
 rw [orbit_len] at h2
 rw [show 0+k+1=k+1 by omega] at h2
 rw [h2];omega
def boxL:List UInt8:=(boxS 255).2.2
theorem AeD:boxL.length=256:=boxS_len 255
attribute [local irreducible] timesP rol8
set_option maxRecDepth 10000 in
set_option maxHeartbeats 4000000 in
theorem box_ok:Aaz AP0 f_aes_Box [] (.agg (boxL.map g8)):=by
 have hfin:boxL=(boxS 255).2.2:=rfl
 rw [hfin]
 clear hfin
 have hs:∀ k,boxS (k+1)=boxT (boxS k):=fun _=>rfl
 have h0:boxS 0=(1,1,(List.replicate 256 (0:UInt8)).set 0 0x63):=rfl
 have hl:=boxS_len
 have h1:=boxS_one
 generalize boxS=st at hs h0 hl h1 ⊢
 refine Aav (af:=c_aes_Box) rfl rfl ?_
 refine Aab (Aad (Aaa 1 rfl (Aac (Aab (Aad (Aaa 1 rfl ?_))))))
 refine Aac (Aab (Aad (Aaa 2 rfl (Aac (Aab (Aad ?_))))))
 refine Aaa 2 rfl (Aac (Aab (Aao (Aab ?_))))
 refine Aak ?_
 refine(AaE (σ:=Nat) (fun k=>255 - k) (fun k=>[(0,.ptr 0 0 0),(1,.ptr 1 0 0),(2,w8 (st k).1),(3,w8 (st k).2.1)])
  (fun k S=>k<255∧S=[some ⟨256,[zs .u8 256]⟩,some ⟨256,[(st k).2.2.map g8]⟩]) 0 (by rw [h0];(repeat' (first | exact Aan | refine Aah rfl ?_))) ⟨by decide,by rw [h0];rfl⟩ ?_)
 rintro k S ⟨hk,rfl⟩
 have hlk:=hl k
 refine Aak ?_
 refine Aab (Aad (Aaa 1 rfl ?_));refine Aap rfl rfl (AiN _ 3) rfl rfl rfl rfl rfl rfl ?_;refine Aaa 1 rfl ?_
 refine Aac (Aab (Aad (Aaa 1 rfl ?_)));refine Aap rfl rfl (AiN _ 0xf6) rfl rfl rfl rfl rfl rfl ?_
 refine Aaa 1 rfl (Aac (Aab (Aad (Aaa 2 rfl (Aac (Aab ?_))))))
 refine Aab (Aad (Aaa 1 rfl (Aac ?_)))
 refine Aak (Acd ?_)
 refine Aab (Aab (Aad (Aaa 2 rfl (Aac ?_))))
 refine AaI (t:=true) rfl (fun _=>?_) (fun h=>nomatch h);refine Aao (Aab ?_);refine Aak ?_;refine Aad ?_
 refine Aaa 3 rfl ?_;refine Aap rfl rfl (rol1 _) rfl rfl rfl rfl rfl rfl ?_;refine Aae (Aas rfl rfl (AaW _ _)) rfl rfl rfl rfl ?_
 refine Aaa 1 rfl (Aac (Aad (Aaa 1 rfl ?_)))
 refine Aae (Aas (v := .int .i64 2) rfl rfl rfl) rfl rfl rfl rfl ?_;refine Aaa 1 rfl (Aac ?_)
 refine Acd ?_
 refine Aab (Aab (Aad (Aaa 2 rfl (Aac ?_))))
 refine AaI (t:=true) rfl (fun _=>?_) (fun h=>nomatch h);refine Aao (Aab ?_);refine Aak ?_;refine Aad ?_
 refine Aaa 3 rfl ?_;refine Aap rfl rfl (rol2 _) rfl rfl rfl rfl rfl rfl ?_;refine Aae (Aas rfl rfl (AaW _ _)) rfl rfl rfl rfl ?_
 refine Aaa 1 rfl (Aac (Aad (Aaa 1 rfl ?_)))
 refine Aae (Aas (v := .int .i64 3) rfl rfl rfl) rfl rfl rfl rfl ?_;refine Aaa 1 rfl (Aac ?_)
 refine Acd ?_
 refine Aab (Aab (Aad (Aaa 2 rfl (Aac ?_))))
 refine AaI (t:=true) rfl (fun _=>?_) (fun h=>nomatch h);refine Aao (Aab ?_);refine Aak ?_;refine Aad ?_
 refine Aaa 3 rfl ?_;refine Aap rfl rfl (rol3 _) rfl rfl rfl rfl rfl rfl ?_;refine Aae (Aas rfl rfl (AaW _ _)) rfl rfl rfl rfl ?_
 refine Aaa 1 rfl (Aac (Aad (Aaa 1 rfl ?_)))
 refine Aae (Aas (v := .int .i64 4) rfl rfl rfl) rfl rfl rfl rfl ?_;refine Aaa 1 rfl (Aac ?_)
 refine Acd ?_
 refine Aab (Aab (Aad (Aaa 2 rfl (Aac ?_))))
 refine AaI (t:=true) rfl (fun _=>?_) (fun h=>nomatch h);refine Aao (Aab ?_);refine Aak ?_;refine Aad ?_
 refine Aaa 3 rfl ?_;refine Aap rfl rfl (rol4 _) rfl rfl rfl rfl rfl rfl ?_;refine Aae (Aas rfl rfl (AaW _ _)) rfl rfl rfl rfl ?_
 refine Aaa 1 rfl (Aac (Aad (Aaa 1 rfl ?_)))
 refine Aae (Aas (v := .int .i64 5) rfl rfl rfl) rfl rfl rfl rfl ?_;refine Aaa 1 rfl (Aac ?_)
 refine Acd ?_
 refine Aab (Aab (Aad (Aaa 2 rfl (Aac ?_))))
 refine AaI (t:=false) rfl (fun h=>nomatch h) (fun _=>?_);refine AaA ?_;refine Aab (Aad (Aaa 2 rfl ?_))
 refine Aae (Aas rfl rfl (AaW _ (99#8))) rfl rfl rfl rfl ?_;refine Aae (Abx rfl rfl (by omega)) rfl rfl rfl rfl ?_
 refine Aae (Abw rfl rfl rfl (by omega)) rfl rfl rfl rfl ?_;refine Aac (Aab (Aad (Aaa 2 rfl ?_)))
 refine Aac ?_
 refine Aar rfl beq_iff_eq (fun h=>?_) (fun h=>?_)
 ·have e:(boxT (st k)).1=1:=(bv_one _).1 h
  rw [←hs] at e
  have:k=254:=(h1 k hk).1 e
  subst this
  have e255:st 255=boxT (st 254):=hs 254
  rw [e255]
  unfold boxT
  dsimp only
  refine AaA ?_;refine Aab (Aad ?_);refine Aae (AbM rfl rfl (by simp;omega)) rfl rfl rfl rfl ?_
  refine Aae (Abf rfl rfl rfl (by simp) (by simp;omega) (AaF (fun _=>rfl) _)) rfl rfl rfl rfl ?_;refine Aac ?_
  exact AaD (AcO rfl rfl (by simp;omega) (AaL (fun _=>rfl) _))
 ·refine Aao ?_
  refine⟨k+1,by omega,by rw [hs];(repeat' (first | exact Aan | refine Aah rfl ?_)),?_,by rw [hs];rfl⟩
  have:k≠254:=fun hk2=>by
   have:=(h1 k hk).2 hk2
   rw [hs] at this
   exact h ((bv_one _).2 this)
  omega
end Go.Eng.Ses
namespace Go.Eng.Ses
open Go Go.Eng
variable [Inhabited GlobT]
attribute [local irreducible] OpR TL TD TC TS Aaz timesP rol8 boxL
def bt (l:List UInt8) (i:Nat):BitVec 8:=(l.getD i 0).toBitVec
def addB (b w:List UInt8) (i:Nat):UInt8:=UInt8.ofBitVec (bt b i ^^^ bt w i)
def addP (b w:List UInt8):List UInt8:=(List.range 16).map (addB b w)
@[simp] theorem addP_len (b w:List UInt8):(addP b w).length=16:=by simp [addP]
theorem addP_def (b w:List UInt8):(List.range 16).map (addB b w)=addP b w:=rfl
theorem add_ok (b w:List UInt8) (hb:b.length=16) (hw:w.length=16):Aaz AP0 f_aes_add [.agg (b.map g8),.agg (w.map g8)] (.agg ((addP b w).map g8)):=by
 have hl:=addP_len b w
 refine Aav (af:=c_aes_add) rfl rfl ?_
 refine Aab (Aad ?_);refine Abh (Afa rfl (by simp;omega)) rfl rfl rfl rfl ?_
 refine Abh (Afa rfl (by simp;omega)) rfl rfl rfl rfl ?_;refine Aaa 1 rfl (Aac (Aab (Aab ?_)))
 refine Aad (Aaa 1 rfl (Aac ?_))
 refine Aak (AaE (σ:=Nat) (fun i=>16 - i) (fun i=>[(2,.ptr 0 0 0),(3,.ptr 1 0 0),(4,.ptr 2 0 0),(6,n64 i)])
  (fun i S=>i≤16∧S=[some ⟨16,[(updA (addB b w) b i).map g8]⟩,some ⟨16,[w.map g8]⟩,some ⟨16,[zs .u8 16]⟩]) 0 (by (repeat' (first | exact Aan | refine Aah rfl ?_))) ⟨by omega,by rw [AlZ];rfl⟩ ?_)
 rintro i S ⟨hi,rfl⟩
 refine Aab (Aad (Aaa 1 rfl (Aac (Aab ?_))))
 refine Aar rfl decide_eq_true_iff (fun h=>Aao ?_) (fun h=>AaA ?_)
 ·have hi':i<16:=by omega
  refine Aab ?_;refine Aak ?_;refine Aab (Aad (Aaa 2 rfl (Aac ?_)));refine AaH rfl ?_
  refine Aal 1 rfl ?_;refine Aai rfl rfl (Abx rfl rfl (by omega)) ?_;refine Aai rfl rfl (Abr 0 rfl rfl (by simp;omega)) ?_
  refine Aal 1 rfl ?_;refine Aai rfl rfl (Abx rfl rfl (by omega)) ?_;refine Aai rfl rfl (Abr 0 rfl rfl (by omega)) ?_
  refine Aai rfl rfl (Aas rfl rfl (AaW _ _)) ?_;refine Aai rfl rfl (Abx rfl rfl (by omega)) ?_
  refine Aai rfl rfl (Abw rfl rfl rfl (by simp;omega)) ?_;refine AaQ ?_;refine⟨rfl,?_⟩;refine Aad ?_
  refine Aae (Aax (b:=1) rfl rfl (by omega)) rfl rfl rfl rfl ?_;refine Aaa 1 rfl (Aac ?_)
  refine⟨i+1,by omega,by (repeat' (first | exact Aan | refine Aah rfl ?_)),by omega,?_⟩
  rw [←updA_set (by omega),Ama (Nat.le_refl _) (by omega)]
  rfl
 ·have:i=16:=by omega
  subst this
  rw [Amb hb,addP_def]
  refine Aab (Aad (Aaa 2 rfl (Aac ?_)));exact AaD (retd rfl ⟨_,AaJ rfl⟩)
def turnB (b:List UInt8) (i:Nat):UInt8:=boxL.getD (bt b ((i+4*(i%4))%16)).toNat 0
def turnP (b:List UInt8):List UInt8:=(List.range 16).map (turnB b)
@[simp] theorem turnP_len (b:List UInt8):(turnP b).length=16:=by simp [turnP]
theorem turnP_def (b:List UInt8):(List.range 16).map (turnB b)=turnP b:=rfl
abbrev keyC (W:List UInt8):List AVal := .bool true::(W++boxL).map g8
theorem turned_ok (W b:List UInt8) (hW:W.length=176) (hb:b.length=16):Aaz AP0 AfL [.rptr (keyC W),.agg (b.map g8)] (.agg ((turnP b).map g8)):=by
 have hl:=turnP_len b
 have hbox:=AeD
 refine Aav (af:=AdG) rfl rfl ?_
 refine Aab (Aad ?_);refine Abh (Afa rfl (by simp;omega)) rfl rfl rfl rfl ?_;refine Aaa 1 rfl (Aac ?_)
 refine Aab (Aad (Aaa 1 rfl (Aac (Aab (Aab (Aad ?_))))))
 refine Aaa 1 rfl (Aac ?_)
 refine Aak (AaE (σ:=Nat) (fun i=>16 - i) (fun i=>[(0,.rptr (keyC W)),(3,.ptr 0 0 0),(4,.ptr 1 0 0),(5,.ptr 2 0 0),(7,n64 i)])
  (fun i S=>i≤16∧S=[some ⟨16,[b.map g8]⟩,some ⟨16,[zs .u8 16]⟩,some ⟨16,[(fillA 0 (turnB b) 16 i).map g8]⟩]) 0 (by (repeat' (first | exact Aan | refine Aah rfl ?_))) ⟨by omega,rfl⟩ ?_)
 rintro i S ⟨hi,rfl⟩
 refine Aab (Aad (Aaa 1 rfl (Aac (Aab ?_))))
 refine Aar rfl decide_eq_true_iff (fun h=>Aao ?_) (fun h=>AaA ?_)
 ·have hi':i<16:=by omega
  refine Aab ?_;refine Aak ?_;refine Aab (Aad (Aaa 2 rfl (Aac ?_)));refine AaH rfl ?_
  refine Aal 4 rfl ?_;refine Aai rfl rfl (Acj (b:=4) rfl rfl (by omega)) ?_;refine Aai rfl rfl (Aey (a:=4) rfl rfl (by omega)) ?_
  refine Aai rfl rfl (Aax rfl rfl (by omega)) ?_;refine Aai rfl rfl (Acj (b:=16) rfl rfl (by omega)) ?_
  refine Aai rfl rfl (Abx rfl rfl (by omega)) ?_;refine Aai rfl rfl (Abr 0 rfl rfl (by omega)) ?_;refine Aal 2 rfl ?_
  refine Aai rfl rfl (o_iaR1 rfl rfl (BitVec.isLt _)) ?_
  have hx:(b.getD ((i+4*(i%4))%16) 0).toNat<256:=UInt8.toNat_lt _
  refine Aai rfl rfl (o_loadRC 176 0 rfl rfl (by simp only [List.length_append,hW,hbox];omega)) ?_
  have e:(W++boxL).getD (176+(b.getD ((i+4*(i%4))%16) 0).toNat) 0=turnB b i:=by rw [←hW,getD_app];rfl
  rw [e]
  refine Aai rfl rfl (Abx rfl rfl (by omega)) ?_;refine Aai rfl rfl (Abw rfl rfl rfl (by simp;omega)) ?_;refine AaQ ?_
  refine⟨rfl,?_⟩;refine Aad ?_;refine Aae (Aax (b:=1) rfl rfl (by omega)) rfl rfl rfl rfl ?_;refine Aaa 1 rfl (Aac ?_)
  exact⟨i+1,by omega,by (repeat' (first | exact Aan | refine Aah rfl ?_)),by omega,by rw [←Abo hi'];rfl⟩
 ·have:i=16:=by omega
  subst this
  rw [Abu,turnP_def]
  refine Aab (Aad (Aaa 2 rfl (Aac ?_)));exact AaD (retd rfl ⟨_,AaJ rfl⟩)
def mixB (b:List UInt8) (i:Nat):UInt8 :=
 let c:=i / 4*4
 UInt8.ofBitVec (timesP (bt b (c+(i+0)%4)) 2 ^^^ timesP (bt b (c+(i+1)%4)) 3 ^^^ bt b (c+(i+2)%4) ^^^ bt b (c+(i+3)%4))
def mixP (b:List UInt8):List UInt8:=(List.range 16).map (mixB b)
@[simp] theorem mixP_len (b:List UInt8):(mixP b).length=16:=by simp [mixP]
theorem mixP_def (b:List UInt8):(List.range 16).map (mixB b)=mixP b:=rfl
theorem at_ok (b:List UInt8) (hb:b.length=16) (c i n:Nat) (hc:c+4≤16) (hi:i<16) (hn:n<4):Aaz AP0 Ajs [n64 n,.rptr (b.map g8),.rptr [n64 c],.rptr [n64 i]] (g8 (b.getD (c+(i+n)%4) 0)):=by
 refine Aav (af:=AfD) rfl rfl ?_
 refine Aab (Aad (Aaa 1 rfl (Aac (Aab (Aad (Aaa 3 rfl ?_))))))
 refine Aae (Aax rfl rfl (by omega)) rfl rfl rfl rfl ?_;refine Aae (Acj (b:=4) rfl rfl (by omega)) rfl rfl rfl rfl ?_
 refine Aae (Aax rfl rfl (by omega)) rfl rfl rfl rfl ?_;refine Aae (o_iaR1 rfl rfl (by omega)) rfl rfl rfl rfl ?_
 refine Aae (AlL 0 rfl (by omega)) rfl rfl rfl rfl ?_;refine Aaa 1 rfl (Aac ?_);exact AaD (retd rfl ⟨_,AaJ rfl⟩)
theorem andNot3 (i:Nat) (hi:i<16):abin .andNot (.int .i64 ((i:Nat):Int)) (.int .i64 3)=some (.int .i64 ((i / 4*4:Nat):Int)):=by
 have:i=0∨i=1∨i=2∨i=3∨i=4∨i=5∨i=6∨i=7∨i=8∨i=9∨i=10∨i=11∨i=12∨i=13∨i=14∨i=15:=by omega
 rcases this with rfl | rfl | rfl | rfl | rfl | rfl | rfl | rfl | rfl | rfl | rfl | rfl | rfl | rfl | rfl | rfl<;>rfl
theorem mixed_ok (b:List UInt8) (hb:b.length=16):Aaz AP0 f_aes_mixed [.agg (b.map g8)] (.agg ((mixP b).map g8)):=by
 have hl:=mixP_len b
 refine Aav (af:=AiD) rfl rfl ?_
 refine Aab (Aad ?_);refine Abh (Afa rfl (by simp;omega)) rfl rfl rfl rfl ?_;refine Aaa 1 rfl (Aac ?_)
 refine Aab (Aad (Aaa 1 rfl (Aac (Aab (Aab (Aad ?_))))))
 refine Aaa 1 rfl (Aac ?_)
 refine Aak (AaE (σ:=Nat) (fun i=>16 - i) (fun i=>[(1,.ptr 0 0 0),(2,.ptr 1 0 0),(3,.ptr 2 0 0),(7,n64 i)])
  (fun i S=>i≤16∧S[0]?=some (some ⟨16,[b.map g8]⟩)∧S[1]?=some (some ⟨16,[zs .u8 16]⟩)∧S[2]?=some (some ⟨16,[(fillA 0 (mixB b) 16 i).map g8]⟩)) 0 (by (repeat' (first | exact Aan | refine Aah rfl ?_))) ⟨by omega,rfl,rfl,rfl⟩ ?_)
 rintro i S ⟨hi,hS0,hS1,hS2⟩
 refine Aab (Aad (Aaa 1 rfl (Aac (Aab ?_))))
 refine Aar rfl decide_eq_true_iff (fun h=>Aao ?_) (fun h=>AaA ?_)
 ·have hi':i<16:=by omega
  refine Aab ?_;refine Aak ?_;refine Aab (Aad (Aaa 1 rfl ?_));refine Adh rfl rfl ?_
  refine Aae (o_storeV rfl rfl Abc rfl) rfl rfl rfl rfl ?_;refine Aac (Aab (Aad ?_))
  refine Aae (AaG rfl (Aam Abc) rfl (Nat.le_of_ble_eq_true rfl) rfl) rfl rfl rfl rfl ?_
  refine Aae (Aas rfl rfl (andNot3 i hi')) rfl rfl rfl rfl ?_
  refine Adh rfl rfl ?_;refine Aae (o_storeV rfl rfl Abc rfl) rfl rfl rfl rfl ?_;refine Aac (Aab (Aad ?_))
  refine Aaa 2 rfl (Aac ?_);refine AdK [none,none,none,none] rfl ?_
  simp only [AbC,List.length_cons,List.length_nil,Nat.zero_add]
  obtain⟨T,hT⟩:∃ T,S++[some ⟨1,[[AVal.int .i64 (i:Int)]]⟩]++[some ⟨1,[[AVal.int .i64 ((i / 4*4:Nat):Int)]]⟩]=T:=⟨_,rfl⟩
  have hn:(S++[some (⟨1,[[AVal.int .i64 (i:Int)]]⟩:ABlock)]).length=S.length+1:=by simp
  have g0:T[0]?=some (some ⟨16,[b.map g8]⟩):=by rw [←hT,List.append_assoc];exact Aba hS0
  have g1:T[1]?=some (some ⟨16,[zs .u8 16]⟩):=by rw [←hT,List.append_assoc];exact Aba hS1
  have g2:T[2]?=some (some ⟨16,[(fillA 0 (mixB b) 16 i).map g8]⟩):=by rw [←hT,List.append_assoc];exact Aba hS2
  have g3:T[S.length]?=some (some ⟨1,[[AVal.int .i64 (i:Int)]]⟩):=by rw [←hT,List.append_assoc];simp
  have g4:T[S.length+1]?=some (some ⟨1,[[AVal.int .i64 ((i / 4*4:Nat):Int)]]⟩):=by rw [←hT,List.append_assoc];simp
  rw [hT,hn]
  generalize S.length=k at g3 g4 ⊢
  have hc:i / 4*4+4≤16:=by omega
  obtain⟨U,hU⟩:∃ U,T++[none,none,none,none]=U:=⟨_,rfl⟩
  replace g0:=hU▸Aba (r:=[none,none,none,none]) g0
  replace g1:=hU▸Aba (r:=[none,none,none,none]) g1
  replace g2:=hU▸Aba (r:=[none,none,none,none]) g2
  replace g3:=hU▸Aba (r:=[none,none,none,none]) g3
  replace g4:=hU▸Aba (r:=[none,none,none,none]) g4
  have fz:∀ n:Nat,(RM.mapL (frzP AaM) [n64 n,.ptr 0 0 0,.ptr (k+1) 0 0,.ptr k 0 0]).run U=some ([n64 n,.rptr (b.map g8),.rptr [n64 (i / 4*4)],.rptr [n64 i]],[0,k+1,k]):=fun n =>
   Aho (frzPI_ok rfl) (Aho (Ano g0 rfl (AaL (fun _=>rfl) b)) (Aho (Ano g4 rfl rfl) (Aho (Ano g3 rfl rfl) frzPI_nil)))
  show TD _ _ _ _ (T++[none,none,none,none]) _
  rw [hU]
  refine Aai rfl rfl (AaG rfl g3 (r:=[n64 i]) rfl (Nat.le_refl _) rfl) ?_
  refine Aal 1 rfl ?_
  refine AiO rfl rfl (fz 0) (at_ok b hb _ i 0 hc hi' (by omega)) rfl rfl rfl rfl rfl ?_
  refine AaS rfl rfl (AiN _ 2) rfl rfl rfl rfl rfl ?_;refine Aal 1 rfl ?_
  refine AiO rfl rfl (fz 1) (at_ok b hb _ i 1 hc hi' (by omega)) rfl rfl rfl rfl rfl ?_
  refine AaS rfl rfl (AiN _ 3) rfl rfl rfl rfl rfl ?_;refine Aai rfl rfl (Aas rfl rfl (AaW _ _)) ?_;refine Aal 1 rfl ?_
  refine AiO rfl rfl (fz 2) (at_ok b hb _ i 2 hc hi' (by omega)) rfl rfl rfl rfl rfl ?_
  refine Aai rfl rfl (Aas rfl rfl (AaW _ _)) ?_;refine Aal 1 rfl ?_
  refine AiO rfl rfl (fz 3) (at_ok b hb _ i 3 hc hi' (by omega)) rfl rfl rfl rfl rfl ?_
  refine Aai rfl rfl (Aas rfl rfl (AaW _ _)) ?_;refine Aai rfl rfl (Abx rfl rfl (by omega)) ?_
  refine Aai rfl rfl (Abw rfl rfl g2 (by simp;omega)) ?_;refine AaQ ?_;refine⟨rfl,?_⟩;refine Aad ?_
  refine Aae (Aax (b:=1) rfl rfl (by omega)) rfl rfl rfl rfl ?_;refine Aaa 1 rfl (Aac ?_)
  refine⟨i+1,by omega,by (repeat' (first | exact Aan | refine Aah rfl ?_)),by omega,Aay (by decide) g0,Aay (by decide) g1,?_⟩
  rw [←Abo hi'];exact Aam g2
 ·have:i=16:=by omega
  subst this
  rw [Abu,mixP_def] at hS2
  have e:∀ r:List AVal,r.length=16→List.take 0 (zs .u8 16)++AbA (AVal.agg (List.take 16 (List.drop 0 r)))++List.drop (0+16) (zs .u8 16)=r:=by
   intro r hr
   rw [show List.drop (0+16) (zs .u8 16)=[] from rfl,List.append_nil,List.drop_zero,←hr,List.take_length];rfl
  refine Aab (Aad ?_);refine Aae (AaG rfl hS2 rfl (Nat.le_of_ble_eq_true rfl) rfl) rfl rfl rfl rfl ?_
  refine Aae (AaT rfl rfl hS1 rfl rfl rfl rfl (Nat.le_of_ble_eq_true rfl) rfl) rfl rfl rfl rfl ?_;refine Aac ?_
  refine AaD (AcO (sz':=16) (r:=(mixP b).map g8) rfl ((Aam hS1).trans ?_) (by simp) (AaL (fun _=>rfl) _))
  show some (some (⟨16,[_]⟩:ABlock))=_
  rw [e _ (by simp)]
end Go.Eng.Ses
namespace Go.Eng.Ses
open Go Go.Eng
variable [Inhabited GlobT]
attribute [local irreducible] OpR TL TD TC TS Aaz timesP rol8 boxL
theorem o_copyAC {AP:AaB} {m:FM} {S:Store} {slot:Nat} {l s:List UInt8} {c:AVal} (hc:storable c=true) {sz b len:Nat} {x y:AOpd} (hx:lo m x=some (.aview b 0 1 len 1)) (hy:lo m y=some (.str s)) (h1:S[b]?=some (some ⟨sz,[c::l.map g8]⟩)) (h2:len≤l.length) (h3:s.length≤len) :
 OpR AP m slot S (.copy 1 x y) (.int .i64 (s.length:Int)) (S.set b (some ⟨sz,[c::(s++l.drop s.length).map g8]⟩)) ([b],[b]) :=
 opr_w fun fr hfr q=>by
  have e1:((AbJ s).take s.length).flatten=s.map g8:=by
   rw [Aco,List.take_of_length_le (by simp)]
   exact AfE s
  have e2:min (AbJ s).length len=s.length:=by rw [Aco,List.length_map,Nat.min_eq_left h3]
  simp only [semX,sem,hfr.opd hx,hfr.opd hy,rowsOf,if_true,RM.bind,RM.run,h1,List.getElem?_cons_zero,e1,e2]
  have h4:(True∧True∧(s.map g8).length=s.length∧1+len≤(c::l.map g8).length∧(s.map g8).all storable=true):=⟨trivial,trivial,by simp,by simp;omega,AaF (fun _=>rfl) _⟩
  rw [if_pos h4]
  simp only [RM.run,List.set_cons_zero,List.take_succ_cons,List.take_zero,Nat.add_comm 1 s.length,List.drop_succ_cons,List.cons_append,List.nil_append,List.map_append,List.map_drop]
def rowB (L:List UInt8) (rc:BitVec 8):Nat→UInt8
 | 0=>UInt8.ofBitVec (bt L 0 ^^^ bt boxL (bt L 13).toNat ^^^ rc)
 | 1=>UInt8.ofBitVec (bt L 1 ^^^ bt boxL (bt L 14).toNat)
 | 2=>UInt8.ofBitVec (bt L 2 ^^^ bt boxL (bt L 15).toNat)
 | 3=>UInt8.ofBitVec (bt L 3 ^^^ bt boxL (bt L 12).toNat)
 | n+4=>UInt8.ofBitVec (bt L (n+4) ^^^ (rowB L rc n).toBitVec)
def rowP (L:List UInt8) (rc:BitVec 8):List UInt8:=(List.range 16).map (rowB L rc)
def rcP:Nat→BitVec 8
 | 0=>1
 | j+1=>timesP (rcP j) 2
def rowsP (k:List UInt8):Nat→List UInt8
 | 0=>k
 | j+1=>rowP (rowsP k j) (rcP j)
theorem rowsP_len (k:List UInt8) (hk:k.length=16):∀ j,(rowsP k j).length=16
 | 0=>hk
 | j+1=>by simp [rowsP,rowP]
def schB (k:List UInt8) (n:Nat):UInt8:=(rowsP k (n / 16)).getD (n%16) 0
def schP (k:List UInt8):List UInt8:=(List.range 176).map (schB k)
@[simp] theorem schP_len (k:List UInt8):(schP k).length=176:=by simp [schP]
theorem schP_def (k:List UInt8):(List.range 176).map (schB k)=schP k:=rfl
theorem AhP (k:List UInt8) (j i:Nat) (hi:i<16):schB k (16*j+i)=(rowsP k j).getD i 0:=by
 unfold schB
 rw [show (16*j+i) / 16=j by omega,show (16*j+i)%16=i by omega]
theorem AiT (k:List UInt8) (j i:Nat) (hi:i<16):schB k (16*(j+1)+i)=rowB (rowsP k j) (rcP j) i:=by
 rw [AhP k _ _ hi,rowsP,rowP,Abj hi]
theorem fill_block (k:List UInt8) (hk:k.length=16) (j n:Nat) (h:16*(j+1)≤n) (hn:n≤176):((fillA 0 (schB k) 176 n).drop (16*j)).take 16=rowsP k j:=by
 have hl:=rowsP_len k hk j
 apply List.ext_getElem?
 intro i
 by_cases hi:i<16
 ·have e:(fillA 0 (schB k) 176 n).getD (16*j+i) 0=schB k (16*j+i):=AbX (by omega)
  rw [List.getElem?_take,if_pos hi,List.getElem?_drop,AdQ (d:=0) (by simp;omega),e,AhP k j i hi,AdQ (d:=0) (by omega)]
 ·rw [List.getElem?_eq_none (by simp;omega),List.getElem?_eq_none (by omega)]
set_option maxRecDepth 10000 in
theorem key_build (bx:List UInt8) (hb:bx.length=256):fillN ([(.bool false)]++zs .u8 432) [((0,1),.bool true),((177,256),.agg (bx.map g8))]=some (.bool true::(fillA 0 (fun _=>0) 176 0++bx).map g8):=by
 rw [AlR]
 have e:([AVal.bool false]++zs .u8 432)=[AVal.bool false]++(List.replicate 176 (g8 0)++List.replicate 256 (g8 0)):=rfl
 rw [e]
 simp only [fillCells,AbA,Abp,List.length_map,hb]
 rw [if_pos ⟨rfl,rfl,by simp⟩,if_pos ⟨trivial,trivial,by simp⟩]
 simp [fillA]
end Go.Eng.Ses
namespace Go.Eng.Ses
open Go Go.Eng
variable [Inhabited GlobT]
attribute [local irreducible] OpR TL TD TC TS Aaz timesP rol8 boxL
theorem loRes_cell {m:FM} {S:Store} {t sz b sz':Nat} {r:List AVal} (h:lkp m t=some (.ptr b 0 0)) (h1:S[b]?=some (some ⟨sz',[r]⟩)) (h2:r.length=sz):Als m S (.cell t true sz)=some (.agg r):=by
 subst h2
 simp only [Als,h,sem,RM.run,h1,List.getElem?_cons_zero,Nat.zero_add,Nat.le_refl,if_true,Eff.o,Acg,List.drop_zero,List.take_length]
theorem AiZ {m:FM} {S:Store} {t u sz b sz':Nat} {r:List AVal} {v:AVal} (h:lkp m t=some (.ptr b 0 0)) (h1:S[b]?=some (some ⟨sz',[r]⟩)) (h2:r.length=sz) (h3:AaC r=true) (hu:lkp m u=some v) (hv:v.closed=true) :
 (AbV.ret = .normal∨AbV.ret = .ret)∧∃ vs ids,Acv m S [.cell t true sz,.tmp u]=some vs∧(frz AaM (one vs)).run S=some (.tuple [.agg r,v],ids):=by
 refine retd (vs:=[.agg r,v]) ?_ ⟨_,AaJ (by simp only [one,AVal.closed,AaC,h3,hv,Bool.and_self])⟩
 have e:=loRes_cell h h1 h2
 have e2:Acv m S [.tmp u]=some [v]:=by simp only [Acv,Als,hu]
 rw [Acv,e,e2]
theorem AeT {AP:AaB} {N:Nat} {d:Option Nat} {row row':List AVal} {sz:Nat} {un:List Nat} {l:List Aaq} {m:FM} {S:Store} {K:FM→Store→Prop} (he:row=row') (hz:row'.length=sz) (hd:(d.all fun d=>d<N)=true)
 (hk:TL AP N l (putM m d (.ptr S.length 0 0)) (S++[some ⟨sz,[row']⟩]) K):TL AP N (⟨d,.alloc row,none,un⟩::l) m S K:=by
 subst he
 exact Adh hz hd hk
theorem AdP (W:List UInt8) (hW:W.length=176):(keyC W).length=433:=by simp [keyC,hW,AeD]
theorem Agv (W:List UInt8):(keyC W).all storable=true:=by simp [keyC,storable]
theorem fill_copy (k:List UInt8) (hk:k.length=16) (bx:List UInt8):k++(fillA 0 (fun _=>0) 176 0++bx).drop k.length=fillA 0 (schB k) 176 16++bx:=by
 have e:(List.range 16).map (schB k)=k:=by
  apply List.ext_getElem?
  intro i
  by_cases hi:i<16
  ·rw [AdQ (d:=0) (by simpa using hi),Abj hi,AdQ (d:=0) (by omega)]
   have:=AhP k 0 i hi
   rw [show 16*0+i=i by omega] at this
   rw [this];rfl
  ·rw [List.getElem?_eq_none (by simp;omega),List.getElem?_eq_none (by omega)]
 simp only [fillA,e,hk,List.range_zero,List.map_nil,List.nil_append,Nat.sub_zero]
 rw [List.drop_append_of_le_length (by rw [List.length_replicate];omega),List.drop_replicate,List.append_assoc]
theorem fill_block2 (k bx:List UInt8) (hk:k.length=16) (j n:Nat) (h:16*(j+1)≤n) (hn:n≤176):((fillA 0 (schB k) 176 n++bx).drop (16*j)).take 16=rowsP k j:=by
 rw [List.drop_append_of_le_length (by simp;omega),List.take_append_of_le_length (by simp;omega),fill_block k hk j n h hn]
theorem box_at (k bx:List UInt8) (n:Nat) (hn:n≤176) (x:Nat):(fillA 0 (schB k) 176 n++bx).getD (176+x) 0=bx.getD x 0:=by
 have e:(fillA 0 (schB k) 176 n).length=176:=by simp;omega
 have:=getD_app (a:=fillA 0 (schB k) 176 n) (b:=bx) (n:=x) (d:=0)
 rwa [e] at this
theorem row_at (k bx:List UInt8) (n:Nat) (hn:n≤176) (j i:Nat) (hi:i<16) (h:16*(j+1)+i<n):(fillA 0 (schB k) 176 n++bx).getD (16*(j+1)+i) 0=rowB (rowsP k j) (rcP j) i:=by
 rw [getD_appl (by simp;omega),AbX h,AiT k j i hi]
theorem row_set (k bx:List UInt8) (j i:Nat) (hi:i<16) (hj:j<10) (v:UInt8) (hv:v=rowB (rowsP k j) (rcP j) i):(fillA 0 (schB k) 176 (16*(j+1)+i)++bx).set (16*(j+1)+i) v=fillA 0 (schB k) 176 (16*(j+1)+i+1)++bx:=by
 rw [List.set_append_left _ _ (by simp;omega),hv,←AiT k j i hi,Abo (by omega)]
theorem row0 (L:List UInt8) (rc:BitVec 8):UInt8.ofBitVec ((L.getD 0 0).toBitVec ^^^ (boxL.getD (L.getD 13 0).toNat 0).toBitVec ^^^ rc)=rowB L rc 0:=rfl
theorem row123 (L:List UInt8) (rc:BitVec 8) (i:Nat) (h0:0<i) (h4:i<4):UInt8.ofBitVec ((L.getD i 0).toBitVec ^^^ (boxL.getD (L.getD (12+(i+1)%4) 0).toNat 0).toBitVec)=rowB L rc i:=by
 obtain rfl | rfl | rfl:i=1∨i=2∨i=3:=by omega
 all_goals rfl
theorem row4 (L:List UInt8) (rc:BitVec 8) (i:Nat) (h4:4≤i):UInt8.ofBitVec ((L.getD i 0).toBitVec ^^^ (rowB L rc (i - 4)).toBitVec)=rowB L rc i:=by
 obtain⟨n,rfl⟩:∃ n,i=n+4:=⟨i - 4,by omega⟩
 rfl
set_option maxRecDepth 10000 in
set_option maxHeartbeats 2000000 in
theorem new_ok (k:List UInt8) (hk:k.length=16):Aaz AP0 Ajt [.str k] (.tuple [.agg (keyC (schP k)),n64 0]):=by
 have hbox:=AeD
 refine Aav (af:=c_aes_New) rfl rfl ?_
 have hk':(k.length:Int)=16:=by omega
 obtain⟨Z,hZ⟩:∃ Z,[AVal.bool false]++zs .u8 432=Z:=⟨_,rfl⟩
 have hZl:Z.length=433:=by rw [←hZ];rfl
 refine Aab (Aad (AeT hZ hZl rfl ?_))
 refine Aaa 1 rfl (Aac (Aab (Aab (Aad (Aaa 3 rfl (Aac ?_))))))
 refine Aar rfl bne_iff_ne (fun h=>absurd hk' h) (fun _=>Aao ?_)
 refine Aab (Aad ?_)
 refine Aap rfl rfl (box_ok) rfl rfl rfl rfl rfl rfl ?_
 refine Aae (Adl rfl (key_build boxL hbox)) rfl rfl rfl rfl ?_
 refine AeT hZ hZl rfl ?_
 refine Aae (Abf rfl rfl rfl hZl (by simp [hbox]) (Agv (fillA 0 (fun _=>0) 176 0))) rfl rfl rfl rfl ?_
 refine Aac (Aab (Aad (Aaa 4 rfl ?_)))
 refine Aae (o_copyAC rfl rfl rfl rfl (by simp [hbox]) (by omega)) rfl rfl rfl rfl ?_
 rw [fill_copy k hk boxL]
 refine Aac (Aab (Aad (Aaa 1 rfl (Aac (Aab (Aab (Aad ?_)))))))
 refine Aaa 1 rfl (Aac ?_)
 refine Aak (AaE (σ:=Nat) (fun j=>10 - j) (fun j=>[(2,.ptr 0 0 0),(3,n64 0),(4,.ptr 1 0 0),(5,w8 (rcP j)),(6,n64 (j+1))])
  (fun j S=>j≤10∧S[0]?=some (some ⟨433,[Z]⟩)∧S[1]?=some (some ⟨433,[keyC (fillA 0 (schB k) 176 (16*(j+1)))]⟩)) 0 (by (repeat' (first | exact Aan | refine Aah rfl ?_))) ⟨by omega,rfl,rfl⟩ ?_)
 rintro j S ⟨hj,hS0,hS1⟩
 refine Aab (Aab (Aad (Aaa 2 rfl (Aac ?_))))
 refine Aar rfl decide_eq_true_iff (fun h=>Aao ?_) (fun h=>AaA ?_)
 ·have hj':j<10:=by omega
  refine Aab ?_;refine Aak ?_;refine Aab ?_;refine AdK [none] rfl ?_;refine Aal 1 rfl ?_
  refine Aai rfl rfl (AbQ (b:=1) rfl rfl (by omega) (by omega)) ?_;refine Aal 1 rfl ?_;refine Aai rfl rfl (Aed rfl rfl (by omega)) ?_
  refine Aai rfl rfl (AlM (16*j) rfl (by omega) (Aba hS1) (by simp;omega)) ?_
  rw [fill_block2 k boxL hk j _ (by omega) (by omega)]
  generalize hL:rowsP k j=L
  have hLl:L.length=16:=by rw [←hL];exact rowsP_len k hk j
  refine Aal 2 rfl ?_;refine Aai rfl rfl (Aed rfl rfl (by omega)) ?_;refine Aai rfl rfl (o_alloc) ?_
  refine Aai rfl rfl (Abf rfl rfl (Aam Abc) (by simp) (by simp;omega) (AaF (fun _=>rfl) _)) ?_;refine Aal 1 rfl ?_
  refine AaQ ?_
  have hq:∃ q,S.length=q+2:=⟨S.length - 2,by have:=(List.getElem?_eq_some_iff.1 hS1).1;omega⟩
  have hz:(zs .u8 16).length=16:=rfl
  obtain⟨q,hq⟩:=hq
  obtain⟨U,hU⟩:∃ U,S++[some ⟨16,[L.map g8]⟩]=U:=⟨_,rfl⟩
  have u0:=hU▸Aba (r:=[some ⟨16,[L.map g8]⟩]) hS0
  have u1:=hU▸Aba (r:=[some ⟨16,[L.map g8]⟩]) hS1
  have u2:U[S.length]?=some (some ⟨16,[L.map g8]⟩):=hU▸Abc
  simp only [AbC,hz,hU]
  rw [hq] at u2 ⊢
  clear hU hS0 hS1 hq
  refine⟨rfl,?_⟩
  refine Aab (Aab (Aad (Aaa 1 rfl (Aac ?_))))
  refine Aak (AaE (σ:=Nat) (fun i=>16 - i) (fun i=>[(2,.ptr 0 0 0),(3,n64 0),(4,.ptr 1 0 0),(5,w8 (rcP j)),(6,n64 (j+1)),(7,.ptr (q+2) 0 0),(8,.ptr 1 0 (1+(j+1)*16)),(33,n64 i)])
   (fun i S=>i≤16∧S[0]?=some (some ⟨433,[Z]⟩)∧S[1]?=some (some ⟨433,[keyC (fillA 0 (schB k) 176 (16*(j+1)+i))]⟩)∧S[q+2]?=some (some ⟨16,[L.map g8]⟩)) 0 (by (repeat' (first | exact Aan | refine Aah rfl ?_))) ⟨by omega,u0,u1,u2⟩ ?_)
  rintro i S ⟨hi,hS0,hS1,hS2⟩
  refine Aab (Aad (Aaa 1 rfl (Aac (Aab ?_))))
  refine Aar rfl decide_eq_true_iff (fun h=>Aao ?_) (fun h=>AaA ?_)
  ·have hi':i<16:=by omega
   have hlen:(fillA 0 (schB k) 176 (16*(j+1)+i)++boxL).length=432:=by simp [hbox];omega
   have hbx:∀ x,(fillA 0 (schB k) 176 (16*(j+1)+i)++boxL).getD (176+x) 0=boxL.getD x 0:=box_at k boxL _ (by omega)
   have hst:=row_set k boxL j i hi' hj'
   have hrow:=row_at k boxL (16*(j+1)+i) (by omega) j (i - 4) (by omega)
   rw [hL] at hst hrow
   unfold keyC at hS1
   generalize fillA 0 (schB k) 176 (16*(j+1)+i)++boxL=W at hlen hbx hst hrow hS1
   refine Aab ?_;refine Aak ?_;refine Aab (Aad (Aaa 2 rfl (Aac ?_)));refine Aak ?_;refine Aab ?_
   refine Aad (Aaa 3 rfl (Aac ?_))
   refine Aar rfl beq_iff_eq (fun h0=>?_) (fun h0=>?_)
   ·have e:i=0:=by omega
    subst e
    have h13:=UInt8.toNat_lt (L.getD 13 0)
    refine AaH rfl ?_;refine Aal 4 rfl ?_;refine Aai rfl rfl (Abr 0 rfl hS2 (by omega)) ?_;refine Aal 1 rfl ?_
    refine Aai rfl rfl (Abr 0 rfl hS2 (by omega)) ?_;refine Aal 1 rfl ?_;refine Aai rfl rfl (Aed rfl rfl (by assumption)) ?_
    refine Aai rfl rfl (o_loadC (g:=g8) (176+(L.getD 13 0).toNat) 0 rfl (by show 0+177+(L.getD 13 0).toNat*1=_;omega) hS1 (by omega)) ?_
    rw [hbx]
    refine Aai rfl rfl (Aas rfl rfl (AaW _ _)) ?_;refine Aal 1 rfl ?_;refine Aai rfl rfl (Aas rfl rfl (AaW _ _)) ?_
    refine Aal 2 rfl ?_
    refine Aai rfl rfl (o_storeC (16*(j+1)+0) rfl (by show 1+(j+1)*16+0*1=_;omega) rfl hS1 (by omega)) ?_
    refine AaQ ?_;refine⟨rfl,?_⟩;refine Aad ?_;refine Aae (Aas (v := .int .i64 1) rfl rfl rfl) rfl rfl rfl rfl ?_;refine Aaa 1 rfl ?_
    refine Aac ?_
    refine⟨1,by omega,by (repeat' (first | exact Aan | refine Aah rfl ?_)),by omega,Aay (by decide) hS0,(Aam hS1).trans ?_,Aay (fun e=>nomatch e) hS2⟩
    rw [hst]
    exact row0 _ _
   ·refine Aab (Aad (Aaa 3 rfl (Aac ?_)))
    refine Aar rfl decide_eq_true_iff (fun h4=>?_) (fun h4=>?_)
    ·have h13:=UInt8.toNat_lt (L.getD (12+(i+1)%4) 0)
     refine AaH rfl ?_;refine Aal 3 rfl ?_;refine Aai rfl rfl (Abx rfl rfl (by omega)) ?_
     refine Aai rfl rfl (Abr 0 rfl hS2 (by omega)) ?_;refine Aal 1 rfl ?_;refine Aai rfl rfl (Aax (b:=1) rfl rfl (by omega)) ?_
     refine Aai rfl rfl (Acj (b:=4) rfl rfl (by omega)) ?_;refine Aai rfl rfl (Aax (a:=12) rfl rfl (by omega)) ?_
     refine Aai rfl rfl (Abx rfl rfl (by omega)) ?_;refine Aai rfl rfl (Abr 0 rfl hS2 (by omega)) ?_;refine Aal 1 rfl ?_
     refine Aai rfl rfl (Aed rfl rfl (by omega)) ?_
     refine Aai rfl rfl (o_loadC (g:=g8) (176+(L.getD (12+(i+1)%4) 0).toNat) 0 rfl (by omega) hS1 (by omega)) ?_
     rw [hbx]
     refine Aai rfl rfl (Aas rfl rfl (AaW _ _)) ?_;refine Aal 1 rfl ?_;refine Aai rfl rfl (Aed rfl rfl (by omega)) ?_
     refine Aai rfl rfl (o_storeC (16*(j+1)+i) rfl (by omega) rfl hS1 (by omega)) ?_
     refine AaQ ?_;refine⟨rfl,?_⟩;refine Aad ?_;refine Aae (Aax (b:=1) rfl rfl (by omega)) rfl rfl rfl rfl ?_;refine Aaa 1 rfl ?_
     refine Aac ?_
     refine⟨i+1,by omega,by (repeat' (first | exact Aan | refine Aah rfl ?_)),by omega,Aay (by decide) hS0,(Aam hS1).trans ?_,Aay (fun e=>nomatch e) hS2⟩
     rw [hst _ (row123 _ _ i (by omega) (by omega))]
     rfl
    ·have h4':4≤i:=by omega
     refine AaH rfl ?_;refine Aal 3 rfl ?_;refine Aai rfl rfl (Abx rfl rfl (by omega)) ?_
     refine Aai rfl rfl (Abr 0 rfl hS2 (by omega)) ?_;refine Aal 2 rfl ?_;refine Aai rfl rfl (AbQ (b:=4) rfl rfl (by omega) (by omega)) ?_
     refine Aal 1 rfl ?_;refine Aai rfl rfl (Aed rfl rfl (by omega)) ?_
     refine Aai rfl rfl (o_loadC (g:=g8) (16*(j+1)+(i - 4)) 0 rfl (by omega) hS1 (by omega)) ?_
     rw [hrow (by omega)]
     refine Aai rfl rfl (Aas rfl rfl (AaW _ _)) ?_;refine Aal 1 rfl ?_;refine Aai rfl rfl (Aed rfl rfl (by omega)) ?_
     refine Aai rfl rfl (o_storeC (16*(j+1)+i) rfl (by omega) rfl hS1 (by omega)) ?_
     refine AaQ ?_;refine⟨rfl,?_⟩;refine Aad ?_;refine Aae (Aax (b:=1) rfl rfl (by omega)) rfl rfl rfl rfl ?_;refine Aaa 1 rfl ?_
     refine Aac ?_
     refine⟨i+1,by omega,by (repeat' (first | exact Aan | refine Aah rfl ?_)),by omega,Aay (by decide) hS0,(Aam hS1).trans ?_,Aay (fun e=>nomatch e) hS2⟩
     rw [hst _ (row4 _ _ i h4')]
     rfl
  ·have:i=16:=by omega
   subst this
   refine Aad (Aaa 1 rfl ?_);refine Aap rfl rfl (AiN _ 2) rfl rfl rfl rfl rfl rfl ?_;refine Aaa 1 rfl (Aac ?_)
   refine Aad (Aaa 1 rfl ?_);refine Aae (Aax (b:=1) rfl rfl (by omega)) rfl rfl rfl rfl ?_;refine Aaa 1 rfl ?_
   refine Aac ?_
   exact⟨j+1,by omega,by (repeat' (first | exact Aan | refine Aah rfl ?_)),by omega,hS0,hS1⟩
 ·have:j=10:=by omega
  subst this
  have hf:fillA 0 (schB k) 176 (16*(10+1))=schP k:=by rw [←schP_def,←Abu]
  rw [hf] at hS1
  have hl:=schP_len k
  generalize schP k=W at hS1 hl ⊢
  have hkl:=AdP W hl
  have hks:=Agv W
  have hkc:AaC (keyC W)=true:=by simp only [keyC,AaC,AVal.closed,Bool.true_and];exact AaL (fun _=>rfl) _
  generalize keyC W=kc at hS1 hkl hks hkc ⊢
  refine Aab (Aad ?_)
  refine Aae (AbM rfl hS1 hkl) rfl rfl rfl rfl ?_
  refine Aae (Abf rfl rfl hS0 hZl hkl hks) rfl rfl rfl rfl ?_
  refine Aaa 1 rfl (Aac ?_)
  exact AaD (AiZ rfl (Aam hS0) hkl hkc rfl rfl)
end Go.Eng.Ses
namespace Go.Eng.Ses
open Go Go.Eng
variable [Inhabited GlobT]
attribute [local irreducible] OpR TL TD TC TS Aaz timesP rol8 boxL addP turnP mixP
theorem AjU (W:List UInt8):AaC (keyC W)=true:=by simp only [keyC,AaC,AVal.closed,Bool.true_and];exact AaL (fun _=>rfl) _
theorem keyC_nr (W:List UInt8):norefL [.agg (keyC W)]=true:=by
 simp only [norefL,AVal.noref,keyC,Bool.true_and,Bool.and_true];exact AbZ (fun _=>rfl) _
theorem cl1 (a:List UInt8):AaC [.agg (a.map g8)]=true:=by
 have h:=AaL (g:=g8) (fun _=>rfl)
 simp only [AaC,AVal.closed,h,Bool.and_self]
theorem cl2 (a b:List UInt8):AaC [.agg (a.map g8),.agg (b.map g8)]=true:=by
 have h:=AaL (g:=g8) (fun _=>rfl)
 simp only [AaC,AVal.closed,h,Bool.and_self]
theorem nr1 {v:AVal} (a:List UInt8):(norefL [.agg (a.map g8)] || v.flat)=true:=by
 have h:=AbZ (g:=g8) (fun _=>rfl)
 simp only [norefL,AVal.noref,h,Bool.and_self,Bool.true_or]
theorem nr2 {v:AVal} (a b:List UInt8):(norefL [.agg (a.map g8),.agg (b.map g8)] || v.flat)=true:=by
 have h:=AbZ (g:=g8) (fun _=>rfl)
 simp only [norefL,AVal.noref,h,Bool.and_self,Bool.true_or]
theorem flatL_map {α:Type} {g:α→AVal} (h:∀ x,(g x).flat=true):∀ (l:List α),flatL (l.map g)=true
 | []=>rfl
 | x::l=>by simp only [List.map_cons,flatL,h x,flatL_map h l,Bool.and_self]
theorem nrf {vs:List AVal} (a:List UInt8):(norefL vs || (AVal.agg (a.map g8)).flat)=true:=by
 have h:=flatL_map (g:=g8) (fun _=>rfl) a
 simp only [AVal.flat,h,Bool.or_true]
theorem by1 (a:List UInt8):(AVal.agg (a.map g8)).closed=true:=by
 have h:=AaL (g:=g8) (fun _=>rfl)
 simp only [AVal.closed,h]
theorem keyC_hd (W:List UInt8):∃ r,keyC W = .bool true::r:=⟨_,rfl⟩
set_option maxRecDepth 10000 in
set_option maxHeartbeats 2000000 in
theorem whole_aes_ok (W:List UInt8) (hW:W.length=176):Aaz AP0 AgC [.agg (keyC W)] (.agg (keyC W)):=by
 have hkl:=AdP W hW
 have hks:=Agv W
 have hkc:=AjU W
 obtain⟨r,hr⟩:=keyC_hd W
 generalize keyC W=kc at hr hkl hks hkc ⊢
 refine Aav (af:=Ael) rfl rfl ?_
 obtain⟨Z,hZ⟩:∃ Z,[AVal.bool false]++zs .u8 432=Z:=⟨_,rfl⟩
 have hZl:Z.length=433:=by rw [←hZ];rfl
 refine Aab (Aad ?_)
 refine Abh (Afa rfl hkl) rfl rfl rfl rfl ?_
 refine AeT hZ hZl rfl ?_
 subst hr
 refine Aac (Aab (Aab (Aad (Aaa 3 rfl (Aac ?_)))))
 refine AaI (t:=false) rfl (fun h=>nomatch h) (fun _=>?_);refine Aao (Aab (Aad ?_))
 refine Aae (AbM rfl rfl hkl) rfl rfl rfl rfl ?_
 refine Aae (Abf rfl rfl rfl hZl hkl hks) rfl rfl rfl rfl ?_
 refine Aac (AaD (AcO rfl rfl hkl hkc))
def blkP (W:List UInt8) (r:Nat):List UInt8:=(W.drop (16*r)).take 16
theorem blkP_len (W:List UInt8) (hW:W.length=176) (r:Nat) (hr:r≤10):(blkP W r).length=16:=by simp [blkP,hW];omega
def encS (W b:List UInt8):Nat→List UInt8
 | 0=>addP b (blkP W 0)
 | r+1=>addP (if r+1<10 then mixP (turnP (encS W b r)) else turnP (encS W b r)) (blkP W (r+1))
def encP (W b:List UInt8):List UInt8:=encS W b 10
theorem encS_len (W b:List UInt8):∀ r,(encS W b r).length=16
 | 0=>addP_len _ _
 | r+1=>addP_len _ _
theorem blk_key (W bx:List UInt8) (hW:W.length=176) (r:Nat) (hr:r≤10):((W++bx).drop (16*r)).take 16=blkP W r:=by
 rw [List.drop_append_of_le_length (by omega),List.take_append_of_le_length (by simp;omega)];rfl
set_option maxRecDepth 10000 in
set_option maxHeartbeats 2000000 in
theorem enc_ok (W b:List UInt8) (hW:W.length=176) (hb:b.length=16):Aaz AP0 Add [.agg (keyC W),.agg (b.map g8)] (.agg ((encP W b).map g8)):=by
 have hkl:=AdP W hW
 have hks:=Agv W
 have hkc:=AjU W
 have hbox:=AeD
 have hwh:=whole_aes_ok W hW
 have htu:=turned_ok W
 refine Aav (af:=Adg) rfl rfl ?_
 refine Aab (Aad ?_)
 refine Abh (Afa rfl hkl) rfl rfl rfl rfl ?_
 refine Abh (Afa rfl (by simp;omega)) rfl rfl rfl rfl ?_;refine Aaa 1 rfl (Aac (Aab (Aad ?_)))
 refine Aae (AbM rfl rfl (by simp;omega)) rfl rfl rfl rfl ?_
 refine Aap rfl (by rw [AaC,AVal.closed,hkc];rfl) hwh (by rw [keyC_nr,Bool.true_or]) rfl rfl rfl rfl rfl ?_
 refine Aae (Abf rfl rfl rfl hkl hkl hks) rfl rfl rfl rfl ?_
 refine Aac (Aab (Aad ?_));refine Aae (AbM rfl rfl (by simp;omega)) rfl rfl rfl rfl ?_;refine Aaa 2 rfl ?_
 refine Aae (AlM 0 rfl rfl rfl (by simp;omega)) rfl rfl rfl rfl ?_
 rw [show (List.drop 0 (W++boxL)).take 16=blkP W 0 from blk_key W boxL hW 0 (by omega)]
 refine Aap rfl (cl2 _ _) (add_ok b _ hb (blkP_len W hW 0 (by omega))) (nr2 _ _) rfl rfl rfl rfl rfl ?_
 refine Aae (Abf rfl rfl rfl (by simp [hb]) (by simp) (AaF (fun _=>rfl) _)) rfl rfl rfl rfl ?_
 refine Aac (Aab (Aab (Aad (Aaa 1 rfl (Aac ?_)))))
 refine Aak (AaE (σ:=Nat) (fun r=>10 - r) (fun r=>[(2,.ptr 0 0 0),(3,.ptr 1 0 0),(4,.ptr 2 0 0),(5,n64 (r+1))])
  (fun r S=>r≤10∧S=[some ⟨433,[keyC W]⟩,some ⟨16,[(encS W b r).map g8]⟩,some ⟨16,[zs .u8 16]⟩]) 0 (by (repeat' (first | exact Aan | refine Aah rfl ?_))) ⟨by omega,rfl⟩ ?_)
 rintro r S ⟨hr,rfl⟩
 have hx:=encS_len W b r
 have hs:encS W b (r+1)=addP (if r+1<10 then mixP (turnP (encS W b r)) else turnP (encS W b r)) (blkP W (r+1)):=rfl
 generalize hX:encS W b r=X at hx hs ⊢
 refine Aab (Aab (Aad (Aaa 2 rfl (Aac ?_))))
 refine Aar rfl decide_eq_true_iff (fun h=>Aao ?_) (fun h=>AaA ?_)
 ·have hr':r<10:=by omega
  have hbl:=blkP_len W hW (r+1) (by omega)
  have htl:=turnP_len X
  have hml:=mixP_len (turnP X)
  refine Aab ?_;refine Aak ?_;refine Aab (Aad ?_);refine Aae (AbM rfl rfl (by simp;omega)) rfl rfl rfl rfl ?_
  refine tl_callP rfl (Afc (frzP_ptr rfl rfl hkc) (Afc (frzP_ok (by1 X)) frzPL_nil)) (turned_ok W X hW hx) (nrf _) rfl rfl rfl rfl rfl rfl ?_
  refine Aae (Abf rfl rfl rfl (by simp [hx]) (by simp) (AaF (fun _=>rfl) _)) rfl rfl rfl rfl ?_
  refine Aac (Aab (Aab (Aad (Aaa 2 rfl (Aac ?_)))))
  have fin:∀ (Y:List UInt8),Y.length=16→addP Y (blkP W (r+1))=encS W b (r+1)→True:=fun _ _ _=>trivial
  refine Aar rfl decide_eq_true_iff (fun h=>?_) (fun h=>Aao ?_)
  ·refine Aad ?_;refine Aae (AbM rfl rfl (by simp)) rfl rfl rfl rfl ?_
   refine Aap rfl (cl1 _) (mixed_ok _ htl) (nr1 _) rfl rfl rfl rfl rfl ?_
   refine Aae (Abf rfl rfl rfl (by simp) (by simp) (AaF (fun _=>rfl) _)) rfl rfl rfl rfl ?_
   refine Aac ?_;refine Aeu ?_;refine Aes rfl ?_;refine Aai rfl rfl (AbM rfl rfl (by simp)) ?_;refine Aal 2 rfl ?_
   refine Aai rfl rfl (Aed rfl rfl (by omega)) ?_
   refine Aai rfl rfl (AlM (g:=g8) (16*(r+1)) rfl (by show 0+1+(r+1)*16=_;omega) rfl (by simp;omega)) ?_
   rw [blk_key W boxL hW (r+1) (by omega)]
   refine AaQ ?_;refine⟨rfl,?_⟩;refine AcF ?_
   refine Aap rfl (cl2 _ _) (add_ok _ _ (by simp) hbl) (nr2 _ _) rfl rfl rfl rfl rfl ?_
   refine Aac ?_;refine AcF ?_;refine Aae (Abf rfl rfl rfl (by simp) (by simp) (AaF (fun _=>rfl) _)) rfl rfl rfl rfl ?_
   refine Aac ?_;refine AkO ?_;refine Aad (Aaa 1 rfl ?_);refine Aae (Aax (b:=1) rfl rfl (by omega)) rfl rfl rfl rfl ?_
   refine Aaa 1 rfl (Aac ?_)
   refine⟨r+1,by omega,by (repeat' (first | exact Aan | refine Aah rfl ?_)),by omega,?_⟩
   rw [hs]
   rw [if_pos (by omega)]
   rfl
  ·refine Aeu ?_;refine Aes rfl ?_;refine Aai rfl rfl (AbM rfl rfl (by simp)) ?_;refine Aal 2 rfl ?_
   refine Aai rfl rfl (Aed rfl rfl (by omega)) ?_
   refine Aai rfl rfl (AlM (g:=g8) (16*(r+1)) rfl (by show 0+1+(r+1)*16=_;omega) rfl (by simp;omega)) ?_
   rw [blk_key W boxL hW (r+1) (by omega)]
   refine AaQ ?_;refine⟨rfl,?_⟩;refine AcF ?_
   refine Aap rfl (cl2 _ _) (add_ok _ _ (by simp) hbl) (nr2 _ _) rfl rfl rfl rfl rfl ?_
   refine Aac ?_;refine AcF ?_;refine Aae (Abf rfl rfl rfl (by simp) (by simp) (AaF (fun _=>rfl) _)) rfl rfl rfl rfl ?_
   refine Aac ?_;refine AkO ?_;refine Aad (Aaa 1 rfl ?_);refine Aae (Aax (b:=1) rfl rfl (by omega)) rfl rfl rfl rfl ?_
   refine Aaa 1 rfl (Aac ?_)
   refine⟨r+1,by omega,by (repeat' (first | exact Aan | refine Aah rfl ?_)),by omega,?_⟩
   rw [hs]
   rw [if_neg (by omega)]
   rfl
 ·have:r=10:=by omega
  subst this
  rw [show X=encP W b from hX.symm] at hx ⊢
  refine Aab (Aad ?_)
  refine Aae (AbM rfl rfl (by simp [hx])) rfl rfl rfl rfl ?_
  refine Aae (Abf rfl rfl rfl (by simp) (by simp [hx]) (AaF (fun _=>rfl) _)) rfl rfl rfl rfl ?_
  refine Aac (AaD (AcO rfl rfl (by simp [hx]) (AaL (fun _=>rfl) _)))
end Go.Eng.Ses
namespace Go.Eng.Ses
open Go Go.Eng
variable [Inhabited GlobT]
attribute [local irreducible] OpR TL TD TC TS Aaz rol8 boxL addP turnP mixP
section
variable {AP:AaB} {m:FM} {S:Store} {slot:Nat}
theorem o_shln {x y:AOpd} {k:IntKind} {a i:Nat} (hx:lo m x=some (.int .i64 (a:Int))) (hy:lo m y=some (.int k (i:Int))) (hi:i<64) (h:a*2^i<9223372036854775808):OpR AP m slot S (.bin .shl x y) (.int .i64 ((a*2^i:Nat):Int)) S ([],[]) :=
 Aas hx hy (by
  have e:min ((i:Int)).toNat IntKind.i64.bits=i:=by
   rw [Int.toNat_natCast];exact Nat.min_eq_left (by show i≤64;omega)
  simp only [abin,AcC,if_true,ashift,e]
  rw [if_neg (by omega),show ((a:Int)*2^i)=((a*2^i:Nat):Int) by simp,Adp h])
theorem AkX {x y:AOpd} {k k':IntKind} {a i:Nat} (hx:lo m x=some (.int k' (a:Int))) (hy:lo m y=some (.int k (i:Int))) (hi:i≤k'.bits):OpR AP m slot S (.bin .shr x y) (.int k' ((a / 2^i:Nat):Int)) S ([],[]) :=
 Aas hx hy (by
  have e:min ((i:Int)).toNat k'.bits=i:=by
   rw [Int.toNat_natCast];exact Nat.min_eq_left hi
  simp only [abin,AcC,if_true,ashift,e]
  rw [if_neg (by omega),show ((2:Int)^i)=((2^i:Nat):Int) by simp,Int.fdiv_eq_ediv_of_nonneg _ (Int.natCast_nonneg _),Int.natCast_ediv])
theorem o_xorn {x y:AOpd} {a b:Nat} (hx:lo m x=some (.int .i64 (a:Int))) (hy:lo m y=some (.int .i64 (b:Int))) (ha:a<9223372036854775808) (hb:b<9223372036854775808):OpR AP m slot S (.bin .xor x y) (.int .i64 ((a ^^^ b:Nat):Int)) S ([],[]) :=
 Aas hx hy (by
  have h:a ^^^ b<9223372036854775808:=Nat.xor_lt_two_pow (n:=63) ha hb
  have e:∀ n:Nat,n<9223372036854775808→(BitVec.ofInt IntKind.i64.bits (n:Int)).toNat=n:=by
   intro n hn
   rw [BitVec.ofInt_natCast,BitVec.toNat_ofNat]
   exact Nat.mod_eq_of_lt (by show n<2^64;omega)
  simp only [abin,AcC,Bool.false_eq_true,if_false,if_true,aintop,abits,Option.map_some]
  rw [BitVec.toNat_xor,e a ha,e b hb,Adp h])
end
def mulS (a b:BitVec 8):Nat→BitVec 16
 | 0=>0
 | i+1=>if b.getLsbD i then mulS a b i ^^^ (a.setWidth 16 <<< i) else mulS a b i
def redS (p:BitVec 16):Nat→BitVec 16
 | 0=>p
 | k+1=>if (redS p k).getLsbD (14 - k) then redS p k ^^^ (283#16 <<< (6 - k)) else redS p k
def times5 (a b:BitVec 8):BitVec 8:=(redS (mulS a b 8) 7).setWidth 8
def xtP (a:BitVec 8):Nat→BitVec 8
 | 0=>a
 | i+1=>xtP a i <<< 1 ^^^ xtP a i >>> 7*27
def sumX (a b:BitVec 8):Nat→BitVec 8
 | 0=>0
 | i+1=>if b.getLsbD i then sumX a b i ^^^ xtP a i else sumX a b i
theorem red_xor (p q:BitVec 16):∀ k,redS (p ^^^ q) k=redS p k ^^^ redS q k
 | 0=>rfl
 | k+1=>by
   rw [redS,redS,redS,red_xor p q k]
   generalize redS p k=x
   generalize redS q k=y
   rw [BitVec.getLsbD_xor]
   generalize 283#16 <<< (6 - k)=c
   cases x.getLsbD (14 - k)<;>cases y.getLsbD (14 - k)
   ·rfl
   ·show x ^^^ y ^^^ c=x ^^^ (y ^^^ c)
    rw [BitVec.xor_assoc]
   ·show x ^^^ y ^^^ c=x ^^^ c ^^^ y
    ac_rfl
   ·show x ^^^ y=(x ^^^ c) ^^^ (y ^^^ c)
    rw [show (x ^^^ c) ^^^ (y ^^^ c)=(x ^^^ y) ^^^ (c ^^^ c) by ac_rfl,BitVec.xor_self,BitVec.xor_zero]
theorem red_zero:redS 0 7=0:=by decide
theorem red_xt:(List.range 256).all (fun a=>(List.range 8).all fun i=>(redS ((BitVec.ofNat 8 a).setWidth 16 <<< i) 7).setWidth 8 == xtP (BitVec.ofNat 8 a) i)=true:=by decide+kernel
theorem red_xt' (a:BitVec 8) (i:Nat) (hi:i<8):(redS (a.setWidth 16 <<< i) 7).setWidth 8=xtP a i:=by
 have h:=List.all_eq_true.1 (List.all_eq_true.1 red_xt a.toNat (List.mem_range.2 a.isLt)) i (List.mem_range.2 hi)
 rw [BitVec.ofNat_toNat,BitVec.setWidth_eq] at h
 exact eq_of_beq h
theorem red_mul (a b:BitVec 8):∀ n,n≤8→(redS (mulS a b n) 7).setWidth 8=sumX a b n
 | 0,_=>by rw [mulS,red_zero];rfl
 | n+1,h=>by
   rw [mulS,sumX]
   split
   ·rw [red_xor,BitVec.setWidth_xor,red_mul a b n (by omega),red_xt' a n (by omega)]
   ·exact red_mul a b n (by omega)
theorem and_one (b:BitVec 8) (i:Nat):(b >>> i &&& 1#8=1#8)↔b.getLsbD i=true:=by
 rw [show b.getLsbD i=(b >>> i).getLsbD 0 by simp [BitVec.getLsbD_ushiftRight]]
 generalize b >>> i=c
 revert c
 decide+kernel
theorem times_sum (a b:BitVec 8):∀ n i,n+i=8→AkP n (sumX a b i) (xtP a i) (b >>> i)=sumX a b 8
 | 0,i,h=>by
   have:i=8:=by omega
   subst this;rfl
 | n+1,i,h=>by
   have e:=times_sum a b n (i+1) (by omega)
   rw [sumX,xtP] at e
   rw [AkP,←e]
   congr 1
   ·by_cases hb:b.getLsbD i=true
    ·rw [if_pos hb,if_pos ((and_one b i).2 hb)]
    ·rw [if_neg hb,if_neg (fun h=>hb ((and_one b i).1 h))]
theorem times5_eq (a b:BitVec 8):times5 a b=timesP a b:=by
 rw [times5,red_mul a b 8 (by omega)]
 have:=times_sum a b 8 0 rfl
 rw [←this,timesP]
 rfl
end Go.Eng.Ses
namespace Go.Eng.Ses
open Go Go.Eng
variable [Inhabited GlobT]
attribute [local irreducible] OpR TL TD TC TS Aaz timesP rol8 boxL addP turnP mixP
theorem mulS_lt (a b:BitVec 8) (i:Nat) (hi:i≤7):(a.setWidth 16 <<< i).toNat=a.toNat*2^i:=by
 have ha:=a.isLt
 have hp:2^i≤2^7:=Nat.pow_le_pow_right (by decide) hi
 have h:a.toNat*2^i<2^16:=by
  calc a.toNat*2^i≤255*2^7:=Nat.mul_le_mul (by omega) hp
   _<2^16:=by decide
 rw [BitVec.toNat_shiftLeft,BitVec.toNat_setWidth,Nat.mod_eq_of_lt (a:=a.toNat) (by omega),Nat.shiftLeft_eq,Nat.mod_eq_of_lt h]
theorem xor_nat (p q:BitVec 16):p.toNat ^^^ q.toNat=(p ^^^ q).toNat:=(BitVec.toNat_xor p q).symm
theorem c283 (k:Nat) (hk:k<7):(283#16 <<< (6 - k)).toNat=283*2^(14 - k - 8):=by
 obtain rfl | rfl | rfl | rfl | rfl | rfl | rfl:k=0∨k=1∨k=2∨k=3∨k=4∨k=5∨k=6:=by omega
 all_goals rfl
theorem bit_nat {w:Nat} (b:BitVec w) (i:Nat):(((b.toNat / 2^i%2:Nat):Int)=1)↔b.getLsbD i=true:=by
 rw [BitVec.getLsbD,Nat.testBit_eq_decide_div_mod_eq,decide_eq_true_iff]
 omega
theorem Ach (a b:BitVec 8):Aaz AP0 Abs [w8 a,w8 b] (w8 (timesP a b)):=by
 rw [←times5_eq]
 obtain⟨R,hR⟩:∃ R,times5 a b=R:=⟨_,rfl⟩
 rw [hR]
 refine Aav (af:=Aiz) rfl rfl ?_
 refine Aab (Aad (Aaa 1 rfl (Aac (Aab (Aad (Aaa 1 rfl ?_))))))
 refine Aac (Aab (Aab (Aad (Aaa 1 rfl (Aac ?_)))))
 refine Aak (AaE (σ:=Nat) (fun i=>8 - i) (fun i=>[(0,w8 a),(1,w8 b),(5,n64 (mulS a b i).toNat),(6,n64 i)])
  (fun i S=>i≤8∧S=[]) 0 (by (repeat' (first | exact Aan | refine Aah rfl ?_))) ⟨by omega,rfl⟩ ?_)
 rintro i S ⟨hi,rfl⟩
 have hs:mulS a b (i+1)=if b.getLsbD i then mulS a b i ^^^ (a.setWidth 16 <<< i) else mulS a b i:=rfl
 refine Aab (Aab (Aad (Aaa 2 rfl (Aac ?_))))
 refine Aar rfl decide_eq_true_iff (fun h=>Aao ?_) (fun h=>AaA ?_)
 ·have hi':i<8:=by omega
  refine Aab ?_;refine Aak ?_;refine Aab (Aad (Aaa 1 rfl ?_))
  refine Aae (AhX rfl (by omega)) rfl rfl rfl rfl ?_;refine Aaa 1 rfl ?_
  refine Aae (AkX rfl rfl (by show i≤64;omega)) rfl rfl rfl rfl ?_
  refine Aae (Acj (b:=2) rfl rfl (by omega)) rfl rfl rfl rfl ?_;refine Aaa 1 rfl (Aac ?_)
  refine Aar rfl (beq_iff_eq.trans (bit_nat b i)) (fun h=>?_) (fun h=>Aao ?_)
  ·rw [if_pos h] at hs
   have hlt:=mulS_lt a b i (by omega)
   have hl:=(a.setWidth 16 <<< i).isLt
   have hl2:=(mulS a b i).isLt
   refine Aad (Aaa 2 rfl ?_);refine Aae (AhX rfl (by omega)) rfl rfl rfl rfl ?_;refine Aaa 1 rfl ?_
   refine Aae (o_shln rfl rfl (by omega) (by omega)) rfl rfl rfl rfl ?_
   rw [←hlt]
   refine Aae (o_xorn rfl rfl (by omega) (by omega)) rfl rfl rfl rfl ?_
   rw [xor_nat,←hs]
   refine Aaa 1 rfl (Aac (Aad (Aaa 1 rfl ?_)))
   refine Aae (Aax (b:=1) rfl rfl (by omega)) rfl rfl rfl rfl ?_;refine Aaa 1 rfl (Aac ?_)
   exact⟨i+1,by omega,by (repeat' (first | exact Aan | refine Aah rfl ?_)),by omega,rfl⟩
  ·rw [if_neg h] at hs
   refine Aad (Aaa 1 rfl ?_);refine Aae (Aax (b:=1) rfl rfl (by omega)) rfl rfl rfl rfl ?_;refine Aaa 1 rfl ?_
   refine Aac ?_
   rw [←hs]
   exact⟨i+1,by omega,by (repeat' (first | exact Aan | refine Aah rfl ?_)),by omega,rfl⟩
 ·have:i=8:=by omega
  subst this
  have hm:R=(redS (mulS a b 8) 7).setWidth 8:=hR.symm
  generalize mulS a b 8=p at hm
  have hs:∀ k,redS p (k+1)=if (redS p k).getLsbD (14 - k) then redS p k ^^^ (283#16 <<< (6 - k)) else redS p k:=fun _=>rfl
  have h0:redS p 0=p:=rfl
  generalize redS p=f at hs h0 hm
  refine Aab (Aab (Aad (Aaa 1 rfl (Aac ?_))))
  rw [←h0]
  refine Aak (AaE (σ:=Nat) (fun k=>7 - k) (fun k=>[(5,n64 (f k).toNat),(7,n64 (14 - k))])
   (fun k S=>k≤7∧S=[]) 0 (by (repeat' (first | exact Aan | refine Aah rfl ?_))) ⟨by omega,rfl⟩ ?_)
  rintro k S ⟨hk,rfl⟩
  refine Aab (Aab (Aad (Aaa 2 rfl (Aac ?_))))
  refine Aar rfl decide_eq_true_iff (fun h=>Aao ?_) (fun h=>AaA ?_)
  ·have hk':k<7:=by omega
   refine Aab ?_
   refine Aak ?_
   refine Aab (Aad (Aaa 2 rfl ?_))
   refine Aae (AkX rfl rfl (by show 14 - k≤64;omega)) rfl rfl rfl rfl ?_
   refine Aae (Acj (b:=2) rfl rfl (by omega)) rfl rfl rfl rfl ?_;refine Aaa 1 rfl (Aac ?_)
   have hs:=hs k
   refine Aar rfl (beq_iff_eq.trans (bit_nat (f k) (14 - k))) (fun h=>?_) (fun h=>Aao ?_)
   ·rw [if_pos h] at hs
    have hlt:=c283 k hk'
    have hl:=(283#16 <<< (6 - k)).isLt
    have hl2:=(f k).isLt
    refine Aad (Aaa 2 rfl ?_);refine Aae (AbQ (b:=8) rfl rfl (by omega) (by omega)) rfl rfl rfl rfl ?_
    refine Aae (o_shln (a:=283) rfl rfl (by omega) (by omega)) rfl rfl rfl rfl ?_
    rw [←hlt]
    refine Aae (o_xorn rfl rfl (by omega) (by omega)) rfl rfl rfl rfl ?_
    rw [xor_nat,←hs]
    refine Aaa 1 rfl (Aac (Aad (Aaa 1 rfl ?_)))
    refine Aae (AbQ (b:=1) rfl rfl (by omega) (by omega)) rfl rfl rfl rfl ?_;refine Aaa 1 rfl (Aac ?_)
    exact⟨k+1,by omega,by (repeat' (first | exact Aan | refine Aah rfl ?_)),by omega,rfl⟩
   ·rw [if_neg h] at hs
    refine Aad (Aaa 1 rfl ?_);refine Aae (AbQ (b:=1) rfl rfl (by omega) (by omega)) rfl rfl rfl rfl ?_;refine Aaa 1 rfl ?_
    refine Aac ?_
    rw [←hs]
    exact⟨k+1,by omega,by (repeat' (first | exact Aan | refine Aah rfl ?_)),by omega,rfl⟩
  ·have:k=7:=by omega
   subst this
   rw [hm]
   refine Aab (Aad (Aaa 1 rfl ?_));refine Aae (Ahl rfl) rfl rfl rfl rfl ?_;refine Aaa 1 rfl (Aac ?_)
   exact AaD (retd rfl ⟨_,AaJ rfl⟩)
def powS (b:BitVec 8):Nat→BitVec 8 × BitVec 8
 | 0=>(1,b)
 | k+1=>(timesP (powS b k).1 (timesP (powS b k).2 (powS b k).2),timesP (powS b k).2 (powS b k).2)
def affS (v:Nat):Nat→Nat
 | 0=>0
 | j+1=>affS v j+(v / 2^j+v / 2^((j+4)%8)+v / 2^((j+5)%8)+v / 2^((j+6)%8)+v / 2^((j+7)%8)+99 / 2^j)%2*2^j
theorem affS_lt (v:Nat):∀ j,affS v j<2^j
 | 0=>Nat.zero_lt_one
 | j+1=>by
   rw [affS,Nat.pow_succ]
   have:=affS_lt v j
   have h2:(v / 2^j+v / 2^((j+4)%8)+v / 2^((j+5)%8)+v / 2^((j+6)%8)+v / 2^((j+7)%8)+99 / 2^j)%2≤1:=by omega
   have h3:=Nat.mul_le_mul_right (2^j) h2
   omega
def subP (b:BitVec 8):BitVec 8:=BitVec.ofNat 8 (affS (powS b 7).1.toNat 8)
theorem sub_ok (b:BitVec 8):Aaz AP0 Ajq [w8 b] (w8 (subP b)):=by
 obtain⟨R,hR⟩:∃ R,subP b=R:=⟨_,rfl⟩
 unfold subP at hR
 show Aaz AP0 Ajq [w8 b] (w8 (subP b))
 rw [show subP b=R from hR]
 have hs:∀ k,powS b (k+1)=(timesP (powS b k).1 (timesP (powS b k).2 (powS b k).2),timesP (powS b k).2 (powS b k).2):=fun _=>rfl
 have h0:powS b 0=(1,b):=rfl
 generalize powS b=f at hs h0 hR
 refine Aav (af:=c_r05_Sub) rfl rfl ?_
 refine Aab (Aad (Aaa 1 rfl (Aac (Aab (Aad (Aaa 3 rfl ?_))))))
 refine Aac (Aab (Aab (Aad (Aaa 1 rfl (Aac ?_)))))
 refine Aak (AaE (σ:=Nat) (fun k=>7 - k) (fun k=>[(3,w8 (f k).1),(4,w8 (f k).2),(5,n64 (k+1))])
  (fun k S=>k≤7∧S=[]) 0 (by rw [h0];(repeat' (first | exact Aan | refine Aah rfl ?_))) ⟨by omega,rfl⟩ ?_)
 rintro k S ⟨hk,rfl⟩
 have hs:=hs k
 refine Aab (Aab (Aad (Aaa 2 rfl (Aac ?_))))
 refine Aar rfl decide_eq_true_iff (fun h=>Aao ?_) (fun h=>AaA ?_)
 ·have hk':k<7:=by omega
  refine Aab ?_;refine Aak ?_;refine Aab (Aad (Aaa 2 rfl ?_))
  refine Aap rfl rfl (Ach _ _) rfl rfl rfl rfl rfl rfl ?_;refine Aaa 1 rfl (Aac (Aad (Aaa 2 rfl ?_)))
  refine Aap rfl rfl (Ach _ _) rfl rfl rfl rfl rfl rfl ?_;refine Aaa 1 rfl (Aac (Aad (Aaa 1 rfl ?_)))
  refine Aae (Aax (b:=1) rfl rfl (by omega)) rfl rfl rfl rfl ?_;refine Aaa 1 rfl (Aac ?_)
  exact⟨k+1,by omega,by rw [hs];(repeat' (first | exact Aan | refine Aah rfl ?_)),by omega,rfl⟩
 ·have:k=7:=by omega
  subst this
  generalize (f 7).1=v at hR ⊢
  have hv:=v.isLt
  have hl:=affS_lt v.toNat
  have ha:∀ j,affS v.toNat (j+1)=affS v.toNat j+(v.toNat / 2^j+v.toNat / 2^((j+4)%8)+v.toNat / 2^((j+5)%8)+v.toNat / 2^((j+6)%8)+v.toNat / 2^((j+7)%8)+99 / 2^j)%2*2^j:=fun _=>rfl
  have hd:∀ j,v.toNat / 2^j≤v.toNat:=fun j=>Nat.div_le_self _ _
  have h0:affS v.toNat 0=0:=rfl
  generalize affS v.toNat=g at hR hl ha h0
  refine Aab (Aad (Aaa 1 rfl ?_));refine Aae (AhX rfl (by omega)) rfl rfl rfl rfl ?_;refine Aaa 1 rfl ?_
  refine Aac (Aab (Aad (Aaa 1 rfl (Aac (Aab (Aab (Aad ?_)))))))
  refine Aaa 1 rfl (Aac ?_)
  refine Aak (AaE (σ:=Nat) (fun j=>8 - j) (fun j=>[(6,n64 v.toNat),(7,n64 (g j)),(8,n64 j)])
   (fun j S=>j≤8∧S=[]) 0 (by rw [h0];(repeat' (first | exact Aan | refine Aah rfl ?_))) ⟨by omega,rfl⟩ ?_)
  rintro j S ⟨hj,rfl⟩
  refine Aab (Aab (Aad (Aaa 2 rfl (Aac ?_))))
  refine Aar rfl decide_eq_true_iff (fun h=>Aao ?_) (fun h=>AaA ?_)
  ·have hj':j<8:=by omega
   have ha:=ha j
   have hlj:=hl j
   have hp:2^j≤2^7:=Nat.pow_le_pow_right (by decide) (by omega)
   have h0:=hd j
   have h1:=hd ((j+4)%8)
   have h2:=hd ((j+5)%8)
   have h3:=hd ((j+6)%8)
   have h4:=hd ((j+7)%8)
   refine Aab ?_;refine Aak ?_;refine Aab ?_;refine AaH rfl ?_;refine Aal 2 rfl ?_
   refine Aai rfl rfl (AkX rfl rfl (by show _≤64;omega)) ?_
   generalize v.toNat / 2^j=A0 at h0 ha ⊢
   refine Aal 2 rfl ?_;refine Aai rfl rfl (Aax (b:=4) rfl rfl (by omega)) ?_;refine Aai rfl rfl (Acj (b:=8) rfl rfl (by omega)) ?_
   refine Aai rfl rfl (AkX rfl rfl (by show _≤64;omega)) ?_
   generalize v.toNat / 2^((j+4)%8)=A1 at h1 ha ⊢
   refine Aai rfl rfl (Aax rfl rfl (by omega)) ?_;refine Aal 2 rfl ?_;refine Aai rfl rfl (Aax (b:=5) rfl rfl (by omega)) ?_
   refine Aai rfl rfl (Acj (b:=8) rfl rfl (by omega)) ?_
   refine Aai rfl rfl (AkX rfl rfl (by show _≤64;omega)) ?_
   generalize v.toNat / 2^((j+5)%8)=A2 at h2 ha ⊢
   refine Aai rfl rfl (Aax rfl rfl (by omega)) ?_;refine Aal 2 rfl ?_;refine Aai rfl rfl (Aax (b:=6) rfl rfl (by omega)) ?_
   refine Aai rfl rfl (Acj (b:=8) rfl rfl (by omega)) ?_
   refine Aai rfl rfl (AkX rfl rfl (by show _≤64;omega)) ?_
   generalize v.toNat / 2^((j+6)%8)=A3 at h3 ha ⊢
   refine Aai rfl rfl (Aax rfl rfl (by omega)) ?_;refine Aal 2 rfl ?_;refine Aai rfl rfl (Aax (b:=7) rfl rfl (by omega)) ?_
   refine Aai rfl rfl (Acj (b:=8) rfl rfl (by omega)) ?_
   refine Aai rfl rfl (AkX rfl rfl (by show _≤64;omega)) ?_
   generalize v.toNat / 2^((j+7)%8)=A4 at h4 ha ⊢
   refine Aai rfl rfl (Aax rfl rfl (by omega)) ?_;refine Aal 1 rfl ?_
   refine Aai rfl rfl (AkX (a:=99) rfl rfl (by show _≤64;omega)) ?_
   have h5:99 / 2^j≤99:=Nat.div_le_self _ _
   generalize 99 / 2^j=A5 at h5 ha ⊢
   refine Aai rfl rfl (Aax rfl rfl (by omega)) ?_;refine Aal 1 rfl (AaQ ?_);refine⟨rfl,?_⟩;refine Aad ?_
   refine Aaa 2 rfl ?_;refine Aae (Acj (b:=2) rfl rfl (by omega)) rfl rfl rfl rfl ?_;refine Aaa 1 rfl ?_
   have hm:(A0+A1+A2+A3+A4+A5)%2*2^j≤1*2^j:=Nat.mul_le_mul_right _ (by omega)
   refine Aae (o_shln rfl rfl (by omega) (by omega)) rfl rfl rfl rfl ?_
   refine Aae (Aax rfl rfl (by omega)) rfl rfl rfl rfl ?_
   rw [←ha]
   refine Aaa 1 rfl (Aac (Aad (Aaa 1 rfl ?_)))
   refine Aae (Aax (b:=1) rfl rfl (by omega)) rfl rfl rfl rfl ?_;refine Aaa 1 rfl (Aac ?_)
   exact⟨j+1,by omega,by (repeat' (first | exact Aan | refine Aah rfl ?_)),by omega,rfl⟩
  ·have:j=8:=by omega
   subst this
   refine Aab (Aad (Aaa 1 rfl ?_));refine Aae (o_convm_u8 rfl) rfl rfl rfl rfl ?_;refine Aaa 1 rfl (Aac ?_)
   rw [show g 8%256=R.toNat by rw [←hR,BitVec.toNat_ofNat]]
   exact AaD (retd rfl ⟨_,AaJ rfl⟩)
end Go.Eng.Ses
namespace Go.Eng.Ses
open Go Go.Eng
variable [Inhabited GlobT]
set_option maxRecDepth 10000 in
theorem sub_all:(List.range 256).all (fun n=>subP (BitVec.ofNat 8 n) == (boxL.getD n 0).toBitVec)=true:=by decide+kernel
theorem sub_eq (b:BitVec 8):subP b=(boxL.getD b.toNat 0).toBitVec:=by
 have h:=List.all_eq_true.1 sub_all b.toNat (List.mem_range.2 b.isLt)
 rw [BitVec.ofNat_toNat,BitVec.setWidth_eq] at h
 exact eq_of_beq h
attribute [local irreducible] OpR TL TD TC TS Aaz timesP rol8 boxL addP turnP mixP subP
theorem box5_ok:Aaz AP0 f_r05_Box [] (.imm (boxL.map fun b=>[g8 b])):=by
 refine Aav (af:=c_r05_Box) rfl rfl ?_
 have hbox:=AeD
 refine Aab (Aad (Aaa 1 rfl (Aac (Aab (Aad (Aaa 1 rfl ?_))))))
 refine Aac (Aab (Aab (Aad (Aaa 1 rfl (Aac ?_)))))
 refine Aak (AaE (σ:=Nat × AVal) (fun q=>256 - q.1) (fun q=>[(1,q.2),(2,n64 q.1)])
  (fun q S=>Acc 0 1 S q.2 ((boxL.take q.1).map fun b=>[g8 b])∧q.1≤256) (0,.nils) (by (repeat' (first | exact Aan | refine Aah rfl ?_))) ⟨AgX,by omega⟩ ?_)
 rintro⟨i,v⟩ S ⟨ha,hi⟩
 dsimp only at *
 refine Aab (Aab (Aad (Aaa 2 rfl (Aac ?_))))
 refine Aar rfl decide_eq_true_iff (fun h=>Aao ?_) (fun h=>AaA ?_)
 ·have hi':i<256:=by omega
  have es:Aaz AP0 Ajq [.int .u8 (i:Int)] (g8 (boxL.getD i 0)):=by
   have h1:=sub_ok (BitVec.ofNat 8 i)
   have h2:(BitVec.ofNat 8 i).toNat=i:=by rw [BitVec.toNat_ofNat,Nat.mod_eq_of_lt (by omega)]
   rw [sub_eq,h2] at h1
   rw [w8,h2] at h1
   exact h1
  have et:boxL.take (i+1)=boxL.take i++[boxL.getD i 0]:=by
   rw [List.take_add_one,AdQ (d:=0) (by omega)];rfl
  refine Aab ?_;refine Aak ?_;refine Aad ?_;refine Aae (Abd rfl) rfl rfl rfl rfl ?_;refine Aaa 1 rfl ?_
  refine Aae (Ags rfl (fits_u8 (by omega))) rfl rfl rfl rfl ?_;refine Aap rfl rfl (es) rfl rfl rfl rfl rfl rfl ?_
  refine Aae (AaU rfl rfl rfl) rfl rfl rfl rfl ?_
  refine tl_accE rfl rfl ha rfl (by simp) rfl (by simp;omega) (Nat.zero_le _) rfl rfl ?_
  intro v' S' ha' _ _
  refine Aae (Abd rfl) rfl rfl rfl rfl ?_;refine Aac (Aad (Aaa 1 rfl ?_))
  refine Aae (Aax (b:=1) rfl rfl (by omega)) rfl rfl rfl rfl ?_;refine Aaa 1 rfl (Aac ?_)
  refine⟨(i+1,v'),by dsimp only;omega,by (repeat' (first | exact Aan | refine Aah rfl ?_)),?_,hi'⟩
  dsimp only
  rw [et,List.map_append]
  exact ha'
 ·have:i=256:=by omega
  subst this
  rw [List.take_of_length_le (by omega)] at ha
  have hc:AaX (boxL.map fun b=>[g8 b])=true:=Abe (fun _=>rfl) _
  generalize (boxL.map fun b=>[g8 b])=rows at ha hc ⊢
  refine Aab (Aad ?_);refine Aae (Abd rfl) rfl rfl rfl rfl ?_;refine Aae (Abd rfl) rfl rfl rfl rfl ?_;refine Aac ?_
  exact AaD (retd (vs:=[v]) rfl (ha.frz hc))
end Go.Eng.Ses
namespace Go.Eng.Ses
open Go Go.Eng
variable [Inhabited GlobT]
attribute [local irreducible] OpR TL TD TC TS Aaz timesP rol8 boxL addP turnP mixP subP
section
variable {AP:AaB} {m:FM} {S:Store} {slot:Nat}
theorem o_loadAr {l:List UInt8} {b i n:Nat} {a:AOpd} {blk:ABlock} (h:lo m a=some (.ptr b i n)) (h1:S[b]?=some (some blk)) (h2:blk.rows[i]?=some (l.map g8)) (h3:n<l.length):OpR AP m slot S (.load false 1 a) (g8 (l.getD n 0)) S ([b],[]) :=
 AaG h h1 h2 (by simp;omega) (by
  simp only [Acg,Bool.false_eq_true,if_false,List.head?_drop]
  exact AbI h3)
theorem o_loadWr {l:List UInt8} {sz b i:Nat} {a:AOpd} {blk:ABlock} (h:lo m a=some (.ptr b i 0)) (h1:S[b]?=some (some blk)) (h2:blk.rows[i]?=some (l.map g8)) (h3:l.length=sz):OpR AP m slot S (.load true sz a) (.agg (l.map g8)) S ([b],[]) :=
 AaG h h1 h2 (by simp;omega) (by
  subst h3
  simp only [Acg,List.drop_zero,if_true,List.length_map,Nat.le_refl]
  rw [show l.length=(l.map g8).length by simp,List.take_length])
end
def wordB (k:List UInt8) (w:Nat):List UInt8:=(List.range 4).map fun c=>schB k (4*w+c)
theorem wordB_get (k:List UInt8) (w c:Nat) (hc:c<4):(wordB k w).getD c 0=schB k (4*w+c):=Abj hc
@[simp] theorem wordB_len (k:List UInt8) (w:Nat):(wordB k w).length=4:=by simp [wordB]
theorem word_head (k:List UInt8) (w c:Nat) (hw:4≤w) (h0:w%4=0) (hc:c<4):schB k (4*w+c)=UInt8.ofBitVec ((schB k (4*(w - 4)+c)).toBitVec ^^^ ((boxL.getD (schB k (4*(w - 1)+(c+1)%4)).toNat 0).toBitVec ^^^ (if c=0 then rcP (w / 4 - 1) else 0))):=by
 obtain⟨j,rfl⟩:∃ j,w=4*(j+1):=⟨w / 4 - 1,by omega⟩
 rw [show 4*(4*(j+1))+c=16*(j+1)+c by omega,AiT k j c (by omega),show 4*(4*(j+1) - 4)+c=16*j+c by omega,AhP k j c (by omega),show 4*(4*(j+1) - 1)+(c+1)%4=16*j+(12+(c+1)%4) by omega,AhP k j _ (by omega),show 4*(j+1) / 4 - 1=j by omega]
 generalize rowsP k j=L
 obtain rfl | rfl | rfl | rfl:c=0∨c=1∨c=2∨c=3:=by omega
 ·rw [if_pos rfl,←BitVec.xor_assoc];rfl
 all_goals
  rw [if_neg (by decide),show ∀ x:BitVec 8,x ^^^ 0=x from fun x=>BitVec.xor_zero]
  rfl
theorem word_next (k:List UInt8) (w c:Nat) (hw:4≤w) (h0:w%4≠0) (hc:c<4):schB k (4*w+c)=UInt8.ofBitVec ((schB k (4*(w - 4)+c)).toBitVec ^^^ (schB k (4*(w - 1)+c)).toBitVec):=by
 obtain⟨j,i,rfl,hi,hi2⟩:∃ j i,w=4*(j+1)+i∧i<4∧i≠0:=⟨w / 4 - 1,w%4,by omega,by omega,h0⟩
 obtain⟨n,rfl⟩:∃ n,i=n+1:=⟨i - 1,by omega⟩
 rw [show 4*(4*(j+1)+(n+1))+c=16*(j+1)+(4*n+c+4) by omega,AiT k j _ (by omega),show 4*(4*(j+1)+(n+1) - 4)+c=16*j+(4*n+c+4) by omega,AhP k j _ (by omega),show 4*(4*(j+1)+(n+1) - 1)+c=16*(j+1)+(4*n+c) by omega,AiT k j _ (by omega),rowB]
 rfl
theorem AgZ (k:List UInt8) (hk:k.length=16) (w:Nat) (hw:w<4):(wordB k w).map g8=[g8 (k.getD (4*w) 0),g8 (k.getD (4*w+1) 0),g8 (k.getD (4*w+2) 0),g8 (k.getD (4*w+3) 0)]:=by
 have e:∀ c,c<4→schB k (4*w+c)=k.getD (4*w+c) 0:=fun c hc=>by
  have:=AhP k 0 (4*w+c) (by omega)
  rw [show 16*0+(4*w+c)=4*w+c by omega] at this
  exact this
 have e0:=e 0 (by omega)
 have e1:=e 1 (by omega)
 have e2:=e 2 (by omega)
 have e3:=e 3 (by omega)
 show [g8 (schB k (4*w+0)),g8 (schB k (4*w+1)),g8 (schB k (4*w+2)),g8 (schB k (4*w+3))]=_
 rw [e0,e1,e2,e3]
 rfl
def AjL (k:List UInt8) (w c:Nat):UInt8:=if w%4=0 then UInt8.ofBitVec ((boxL.getD (schB k (4*(w - 1)+(c+1)%4)).toNat 0).toBitVec ^^^ (if c=0 then rcP (w / 4 - 1) else 0)) else schB k (4*(w - 1)+c)
theorem temp_next (k:List UInt8) (w:Nat) (h:w%4≠0):(List.range 4).map (AjL k w)=wordB k (w - 1):=by
 unfold wordB
 refine List.map_congr_left fun c _=>?_
 rw [AjL,if_neg h]
theorem temp_head (k:List UInt8) (w:Nat) (h:w%4=0):(List.range 4).map (AjL k w)=[UInt8.ofBitVec ((boxL.getD (schB k (4*(w - 1)+1)).toNat 0).toBitVec ^^^ rcP (w / 4 - 1)),boxL.getD (schB k (4*(w - 1)+2)).toNat 0,boxL.getD (schB k (4*(w - 1)+3)).toNat 0,boxL.getD (schB k (4*(w - 1)+0)).toNat 0]:=by
 have z:∀ x:UInt8,UInt8.ofBitVec (x.toBitVec ^^^ 0)=x:=fun x=>by
  show UInt8.ofBitVec (x.toBitVec ^^^ 0#8)=x
  rw [BitVec.xor_zero]
 show [AjL k w 0,AjL k w 1,AjL k w 2,AjL k w 3]=_
 unfold AjL
 rw [if_pos h,if_pos h,if_pos h,if_pos h,if_pos rfl,if_neg (by decide),if_neg (by decide),if_neg (by decide),z,z,z]
theorem word_temp (k:List UInt8) (w c:Nat) (hw:4≤w) (hc:c<4):schB k (4*w+c)=UInt8.ofBitVec ((schB k (4*(w - 4)+c)).toBitVec ^^^ (AjL k w c).toBitVec):=by
 by_cases h:w%4=0
 ·rw [word_head k w c hw h hc,AjL,if_pos h]
 ·rw [word_next k w c hw h hc,AjL,if_neg h]
theorem Acc.mk' {k sz b n:Nat} {S:Store} {rows:List (List AVal)} (hne:rows≠[]) (h:S[b]?=some (some ⟨sz,rows⟩)) (hn:n=rows.length) (hk:k≤b:=by omega):Acc k sz S (.view b 0 n false) rows :=
 .inr ⟨hne,b,hk,by rw [hn],h⟩
theorem words_ok (k:List UInt8) (hk:k.length=16):Aaz AP0 Anx [.str k,.imm (boxL.map fun b=>[g8 b])] (.imm ((List.range 44).map fun w=>(wordB k w).map g8)):=by
 have hbox:=AeD
 obtain⟨bx,hbx⟩:∃ bx,(boxL.map fun b=>[g8 b])=bx:=⟨_,rfl⟩
 have bget:∀ n,n<256→bx[n]?=some [g8 (boxL.getD n 0)]:=fun n h=>by
  rw [←hbx,List.getElem?_map,AdQ (d:=0) (by omega)];rfl
 rw [hbx]
 refine Aav (af:=Aiy) rfl rfl ?_
 refine Aab (Aad (Aaa 1 rfl (Aac (Aab (Aad (Aaa 1 rfl ?_))))))
 refine Aac (Aab (Aab (Aad (Aaa 1 rfl (Aac ?_)))))
 refine Aak (Acd ?_)
 refine Aab (Aab (Aad (Aaa 2 rfl (Aac ?_))))
 refine AaI (t:=true) rfl (fun _=>?_) (fun h=>nomatch h);refine Aao (Aab ?_);refine Aak ?_
 refine AdK [none] rfl ?_;refine Aal 3 rfl ?_;refine Aai rfl rfl (Aas (v := .int .i64 0) rfl rfl rfl) ?_
 refine Aai rfl rfl (Adt rfl rfl (by simp;omega)) ?_;refine Aal 2 rfl ?_;refine Aai rfl rfl (Aas (v := .int .i64 0) rfl rfl rfl) ?_
 refine Aai rfl rfl (Aas (v := .int .i64 1) rfl rfl rfl) ?_;refine Aai rfl rfl (Adt rfl rfl (by simp;omega)) ?_;refine Aal 2 rfl ?_
 refine Aai rfl rfl (Aas (v := .int .i64 0) rfl rfl rfl) ?_;refine Aai rfl rfl (Aas (v := .int .i64 2) rfl rfl rfl) ?_
 refine Aai rfl rfl (Adt rfl rfl (by simp;omega)) ?_;refine Aal 2 rfl ?_;refine Aai rfl rfl (Aas (v := .int .i64 0) rfl rfl rfl) ?_
 refine Aai rfl rfl (Aas (v := .int .i64 3) rfl rfl rfl) ?_;refine Aai rfl rfl (Adt rfl rfl (by simp;omega)) ?_
 refine Aai rfl rfl (Adl rfl rfl) ?_;refine Aai rfl rfl (Agt rfl rfl) ?_;refine Aal 2 rfl (AaQ ?_);refine⟨rfl,?_⟩
 refine Aad (Aaa 1 rfl ?_);refine Aae (Aas (v := .int .i64 1) rfl rfl rfl) rfl rfl rfl rfl ?_;refine Aaa 1 rfl ?_
 refine Aac ?_
 refine Acd ?_
 refine Aab (Aab (Aad (Aaa 2 rfl (Aac ?_))))
 refine AaI (t:=true) rfl (fun _=>?_) (fun h=>nomatch h);refine Aao (Aab ?_);refine Aak ?_
 refine AdK [none] rfl ?_;refine Aal 3 rfl ?_;refine Aai rfl rfl (Aas (v := .int .i64 4) rfl rfl rfl) ?_
 refine Aai rfl rfl (Adt rfl rfl (by simp;omega)) ?_;refine Aal 2 rfl ?_;refine Aai rfl rfl (Aas (v := .int .i64 4) rfl rfl rfl) ?_
 refine Aai rfl rfl (Aas (v := .int .i64 5) rfl rfl rfl) ?_;refine Aai rfl rfl (Adt rfl rfl (by simp;omega)) ?_;refine Aal 2 rfl ?_
 refine Aai rfl rfl (Aas (v := .int .i64 4) rfl rfl rfl) ?_;refine Aai rfl rfl (Aas (v := .int .i64 6) rfl rfl rfl) ?_
 refine Aai rfl rfl (Adt rfl rfl (by simp;omega)) ?_;refine Aal 2 rfl ?_;refine Aai rfl rfl (Aas (v := .int .i64 4) rfl rfl rfl) ?_
 refine Aai rfl rfl (Aas (v := .int .i64 7) rfl rfl rfl) ?_;refine Aai rfl rfl (Adt rfl rfl (by simp;omega)) ?_
 refine Aai rfl rfl (Adl rfl rfl) ?_;refine Aai rfl rfl (Agt rfl rfl) ?_;refine Aal 2 rfl (AaQ ?_);refine⟨rfl,?_⟩
 refine Aad (Aaa 1 rfl ?_);refine Aae (Aas (v := .int .i64 2) rfl rfl rfl) rfl rfl rfl rfl ?_;refine Aaa 1 rfl ?_
 refine Aac ?_
 refine Acd ?_
 refine Aab (Aab (Aad (Aaa 2 rfl (Aac ?_))))
 refine AaI (t:=true) rfl (fun _=>?_) (fun h=>nomatch h);refine Aao (Aab ?_);refine Aak ?_
 refine AdK [none] rfl ?_;refine Aal 3 rfl ?_;refine Aai rfl rfl (Aas (v := .int .i64 8) rfl rfl rfl) ?_
 refine Aai rfl rfl (Adt rfl rfl (by simp;omega)) ?_;refine Aal 2 rfl ?_;refine Aai rfl rfl (Aas (v := .int .i64 8) rfl rfl rfl) ?_
 refine Aai rfl rfl (Aas (v := .int .i64 9) rfl rfl rfl) ?_;refine Aai rfl rfl (Adt rfl rfl (by simp;omega)) ?_;refine Aal 2 rfl ?_
 refine Aai rfl rfl (Aas (v := .int .i64 8) rfl rfl rfl) ?_;refine Aai rfl rfl (Aas (v := .int .i64 10) rfl rfl rfl) ?_
 refine Aai rfl rfl (Adt rfl rfl (by simp;omega)) ?_;refine Aal 2 rfl ?_;refine Aai rfl rfl (Aas (v := .int .i64 8) rfl rfl rfl) ?_
 refine Aai rfl rfl (Aas (v := .int .i64 11) rfl rfl rfl) ?_;refine Aai rfl rfl (Adt rfl rfl (by simp;omega)) ?_
 refine Aai rfl rfl (Adl rfl rfl) ?_;refine Aai rfl rfl (Agt rfl rfl) ?_;refine Aal 2 rfl (AaQ ?_);refine⟨rfl,?_⟩
 refine Aad (Aaa 1 rfl ?_);refine Aae (Aas (v := .int .i64 3) rfl rfl rfl) rfl rfl rfl rfl ?_;refine Aaa 1 rfl ?_
 refine Aac ?_
 refine Acd ?_
 refine Aab (Aab (Aad (Aaa 2 rfl (Aac ?_))))
 refine AaI (t:=true) rfl (fun _=>?_) (fun h=>nomatch h);refine Aao (Aab ?_);refine Aak ?_
 refine AdK [none] rfl ?_;refine Aal 3 rfl ?_;refine Aai rfl rfl (Aas (v := .int .i64 12) rfl rfl rfl) ?_
 refine Aai rfl rfl (Adt rfl rfl (by simp;omega)) ?_;refine Aal 2 rfl ?_;refine Aai rfl rfl (Aas (v := .int .i64 12) rfl rfl rfl) ?_
 refine Aai rfl rfl (Aas (v := .int .i64 13) rfl rfl rfl) ?_;refine Aai rfl rfl (Adt rfl rfl (by simp;omega)) ?_;refine Aal 2 rfl ?_
 refine Aai rfl rfl (Aas (v := .int .i64 12) rfl rfl rfl) ?_;refine Aai rfl rfl (Aas (v := .int .i64 14) rfl rfl rfl) ?_
 refine Aai rfl rfl (Adt rfl rfl (by simp;omega)) ?_;refine Aal 2 rfl ?_;refine Aai rfl rfl (Aas (v := .int .i64 12) rfl rfl rfl) ?_
 refine Aai rfl rfl (Aas (v := .int .i64 15) rfl rfl rfl) ?_;refine Aai rfl rfl (Adt rfl rfl (by simp;omega)) ?_
 refine Aai rfl rfl (Adl rfl rfl) ?_;refine Aai rfl rfl (Agt rfl rfl) ?_;refine Aal 2 rfl (AaQ ?_);refine⟨rfl,?_⟩
 refine Aad (Aaa 1 rfl ?_);refine Aae (Aas (v := .int .i64 4) rfl rfl rfl) rfl rfl rfl rfl ?_;refine Aaa 1 rfl ?_
 refine Aac ?_
 refine Acd ?_
 refine Aab (Aab (Aad (Aaa 2 rfl (Aac ?_))))
 refine AaI (t:=false) rfl (fun h=>nomatch h) (fun _=>?_);refine AaA ?_;refine Aab (Aad (Aaa 1 rfl ?_))
 refine Aac (Aab (Aab (Aad (Aaa 1 rfl (Aac ?_)))))
 have w4:(List.range 4).map (fun w=>(wordB k w).map g8)=[[g8 k[0],g8 k[1],g8 k[2],g8 k[3]],[g8 k[4],g8 k[5],g8 k[6],g8 k[7]],[g8 k[8],g8 k[9],g8 k[10],g8 k[11]],[g8 k[12],g8 k[13],g8 k[14],g8 k[15]]]:=by
  have e:∀ n (h:n<k.length),k.getD n 0=k[n]:=fun n h=>by rw [List.getD_eq_getElem?_getD,List.getElem?_eq_getElem h];rfl
  show [(wordB k 0).map g8,(wordB k 1).map g8,(wordB k 2).map g8,(wordB k 3).map g8]=_
  rw [AgZ k hk 0 (by omega),AgZ k hk 1 (by omega),AgZ k hk 2 (by omega),AgZ k hk 3 (by omega)]
  rw [e _ (by omega),e _ (by omega),e _ (by omega),e _ (by omega),e _ (by omega),e _ (by omega),e _ (by omega),e _ (by omega),e _ (by omega),e _ (by omega),e _ (by omega),e _ (by omega),e _ (by omega),e _ (by omega),e _ (by omega),e _ (by omega)]
 have hget:∀ w n,n<w→((List.range w).map fun w=>(wordB k w).map g8)[n]?=some ((wordB k n).map g8):=fun w n h=>by
  rw [List.getElem?_map,List.getElem?_range h];rfl
 have hsucc:∀ w,(List.range (w+1)).map (fun w=>(wordB k w).map g8)=(List.range w).map (fun w=>(wordB k w).map g8)++[(wordB k w).map g8]:=fun w=>by
  rw [List.range_succ,List.map_append];rfl
 have hcl:∀ w,AaX ((List.range w).map fun w=>(wordB k w).map g8)=true:=fun w=>Abe (fun _=>AaL (fun _=>rfl) _) _
 have hln:∀ w,((List.range w).map fun w=>(wordB k w).map g8).length=w:=fun w=>by simp
 generalize hrows:(fun w=>(List.range w).map fun w=>(wordB k w).map g8)=rows
 have er:∀ w,((List.range w).map fun w=>(wordB k w).map g8)=rows w:=fun w=>congrFun hrows w
 simp only [er] at hget hsucc hcl hln w4 ⊢
 refine Aak (AaE (σ:=Nat × AVal) (fun q=>44 - q.1) (fun q=>[(0,.str k),(1,.imm bx),(5,q.2),(7,w8 (rcP ((q.1+3) / 4 - 1))),(8,n64 q.1)])
  (fun q S=>4≤q.1∧q.1≤44∧Acc 0 4 S q.2 (rows q.1)) (4,.view 3 0 4 false) (by (repeat' (first | exact Aan | refine Aah rfl ?_))) ⟨by omega,by omega,.inr ⟨by rw [w4];simp,3,by omega,by rw [hln],by rw [w4];rfl⟩⟩ ?_)
 rintro⟨w,v⟩ S ⟨hw4,hw,ha⟩
 dsimp only at *
 refine Aab (Aab (Aad (Aaa 2 rfl (Aac ?_))))
 refine Aar rfl decide_eq_true_iff (fun h=>Aao ?_) (fun h=>AaA ?_)
 ·have hw':w<44:=by omega
  rcases ha with⟨_,h⟩ | ⟨hne,b,_,rfl,hb⟩
  ·have:=hln w;rw [h] at this;simp at this;omega
  rw [hln]
  refine Aab ?_;refine Aak ?_;refine Aab (Aad (Aaa 2 rfl ?_))
  refine Aae (AbQ (b:=1) rfl rfl (by omega) (by omega)) rfl rfl rfl rfl ?_
  refine Aae (AaP rfl rfl (by omega) hb rfl) rfl rfl rfl rfl ?_
  refine Aae (o_loadWr rfl hb (hget w (w - 1) (by omega)) (by simp)) rfl rfl rfl rfl ?_
  refine Adh (row:=zs .u8 4) (sz:=4) rfl rfl ?_
  refine Aae (Abf rfl rfl Abc rfl (by simp) (AaF (fun _=>rfl) _)) rfl rfl rfl rfl ?_
  rw [AbC]
  refine Aac ?_
  have hbp:=(List.getElem?_eq_some_iff.1 hb).1
  obtain⟨T,hT⟩:∃ T,S++[some ⟨4,[(wordB k (w - 1)).map g8]⟩]=T:=⟨_,rfl⟩
  have tb:=hT▸Aba (r:=[some ⟨4,[(wordB k (w - 1)).map g8]⟩]) hb
  have tp:T[S.length]?=some (some ⟨4,[(wordB k (w - 1)).map g8]⟩):=hT▸Abc
  rw [hT]
  generalize S.length=p at hbp tp ⊢
  clear hT hb S
  refine tc_cut (σ:=Unit) (fun _=>[(0,.str k),(1,.imm bx),(5,.view b 0 w false),(7,w8 (rcP ((w+1+3) / 4 - 1))),(8,n64 w),(9,.ptr p 0 0)])
   (fun _ S=>S[b]?=some (some ⟨4,rows w⟩)∧S[p]?=some (some ⟨4,[((List.range 4).map (AjL k w)).map g8]⟩)) ?_ ?_
  ·refine Aab (Aad ?_)
   refine Aaa 1 rfl ?_;refine Aae (Acj (b:=4) rfl rfl (by omega)) rfl rfl rfl rfl ?_;refine Aaa 1 rfl (Aac ?_)
   refine Aar rfl beq_iff_eq (fun h=>?_) (fun h=>Aao ?_)
   ·refine Aab ?_;refine AaH rfl ?_;refine Aal 2 rfl ?_;refine Aai rfl rfl (AaG rfl tp rfl (Nat.le_of_ble_eq_true rfl) rfl) ?_
    refine Aai rfl rfl (Ack rfl rfl (bget _ (UInt8.toNat_lt _)) rfl) ?_
    refine Aal 2 rfl ?_;refine Aai rfl rfl (Aas rfl rfl (AaW _ _)) ?_;refine Aal 2 rfl ?_
    refine Aai rfl rfl (AaG rfl tp rfl (Nat.le_of_ble_eq_true rfl) rfl) ?_
    refine Aai rfl rfl (Ack rfl rfl (bget _ (UInt8.toNat_lt _)) rfl) ?_
    refine Aal 3 rfl ?_;refine Aai rfl rfl (AaG rfl tp rfl (Nat.le_of_ble_eq_true rfl) rfl) ?_
    refine Aai rfl rfl (Ack rfl rfl (bget _ (UInt8.toNat_lt _)) rfl) ?_
    refine Aal 3 rfl ?_;refine Aai rfl rfl (AaG rfl tp rfl (Nat.le_of_ble_eq_true rfl) rfl) ?_
    refine Aai rfl rfl (Ack rfl rfl (bget _ (UInt8.toNat_lt _)) rfl) ?_
    refine Aal 1 rfl ?_;refine Aai rfl rfl (Adl rfl rfl) ?_
    refine Aai rfl rfl (AaT rfl rfl tp rfl rfl rfl rfl (Nat.le_of_ble_eq_true rfl) rfl) ?_;refine AaQ ?_;refine⟨rfl,?_⟩;refine Aad ?_
    refine Aaa 1 rfl ?_;refine Aap rfl rfl (Ach _ 2) rfl rfl rfl rfl rfl rfl ?_;refine Aaa 1 rfl (Aac ?_)
    have h':w%4=0:=by omega
    have hrc:rcP ((w+1+3) / 4 - 1)=timesP (rcP ((w+3) / 4 - 1)) 2:=by
     rw [show (w+1+3) / 4 - 1=((w+3) / 4 - 1)+1 by omega];rfl
    refine⟨(),by rw [hrc];(repeat' (first | exact Aan | refine Aah rfl ?_)),Aay (by omega) tb,(Aam tp).trans ?_⟩
    rw [temp_head k w h']
    rw [show w / 4 - 1=(w+3) / 4 - 1 by omega]
    rfl
   ·refine⟨(),?_,tb,?_⟩
    ·rw [show (w+1+3) / 4=(w+3) / 4 by omega]
     (repeat' (first | exact Aan | refine Aah rfl ?_))
    ·rw [tp]
     rw [temp_next k w (by omega)]
  ·rintro _ S ⟨hb,hp⟩
   refine Aab (Aad ?_);refine Adh rfl rfl ?_;refine Aac (Aab (Aab (Aad ?_)))
   refine Aaa 1 rfl (Aac ?_)
   have hqp:=(List.getElem?_eq_some_iff.1 hp).1
   obtain⟨T,hT⟩:∃ T,S++[some ⟨4,[(fillA 0 (fun c=>schB k (4*w+c)) 4 0).map g8]⟩]=T:=⟨_,rfl⟩
   have tb:=hT▸Aba (r:=[some ⟨4,[(fillA 0 (fun c=>schB k (4*w+c)) 4 0).map g8]⟩]) hb
   have tp:=hT▸Aba (r:=[some ⟨4,[(fillA 0 (fun c=>schB k (4*w+c)) 4 0).map g8]⟩]) hp
   have tq:T[S.length]?=some (some ⟨4,[(fillA 0 (fun c=>schB k (4*w+c)) 4 0).map g8]⟩):=hT▸Abc
   show TC _ _ _ _ (S++[some ⟨4,[(fillA 0 (fun c=>schB k (4*w+c)) 4 0).map g8]⟩]) _
   rw [hT]
   generalize S.length=q at hqp tq ⊢
   clear hT hb hp S
   refine Aak (AaE (σ:=Nat) (fun j=>4 - j) (fun j=>[(0,.str k),(1,.imm bx),(5,.view b 0 w false),(7,w8 (rcP ((w+1+3) / 4 - 1))),(8,n64 w),(9,.ptr p 0 0),(10,.ptr q 0 0),(11,n64 j)])
    (fun j S=>j≤4∧S[b]?=some (some ⟨4,rows w⟩)∧S[p]?=some (some ⟨4,[((List.range 4).map (AjL k w)).map g8]⟩)∧S[q]?=some (some ⟨4,[(fillA 0 (fun c=>schB k (4*w+c)) 4 j).map g8]⟩)) 0 (by (repeat' (first | exact Aan | refine Aah rfl ?_))) ⟨by omega,tb,tp,tq⟩ ?_)
   rintro j S ⟨hj,hb,hp,hq⟩
   refine Aab (Aab (Aad (Aaa 2 rfl (Aac ?_))))
   refine Aar rfl decide_eq_true_iff (fun h=>Aao ?_) (fun h=>AaA ?_)
   ·have hj':j<4:=by omega
    have hwt:=word_temp k w j hw4 hj'
    refine Aab ?_;refine Aak ?_;refine AaH rfl ?_;refine Aal 3 rfl ?_
    refine Aai rfl rfl (AbQ (b:=4) rfl rfl (by omega) (by omega)) ?_;refine Aal 1 rfl ?_
    refine Aai rfl rfl (AaP rfl rfl (by omega) hb rfl) ?_;refine Aai rfl rfl (Abx rfl rfl (by omega)) ?_
    refine Aai rfl rfl (o_loadAr rfl hb (hget w (w - 4) (by omega)) (by simpa using hj')) ?_
    rw [wordB_get k (w - 4) j hj']
    refine Aal 1 rfl ?_;refine Aai rfl rfl (Abx rfl rfl (by omega)) ?_;refine Aai rfl rfl (Abr 0 rfl hp (by assumption)) ?_
    refine Aai rfl rfl (Aas rfl rfl (AaW _ _)) ?_;refine Aai rfl rfl (Abx rfl rfl (by omega)) ?_
    refine Aai rfl rfl (Abw rfl rfl hq (by simp;omega)) ?_;refine AaQ ?_;refine⟨rfl,?_⟩;refine Aad (Aaa 1 rfl ?_)
    refine Aae (Aax (b:=1) rfl rfl (by omega)) rfl rfl rfl rfl ?_;refine Aaa 1 rfl (Aac ?_)
    refine⟨j+1,by omega,by (repeat' (first | exact Aan | refine Aah rfl ?_)),by omega,Aay (by omega) hb,Aay (by omega) hp,(Aam hq).trans ?_⟩
    rw [←Abo hj',hwt,Abj hj']
   ·have:j=4:=by omega
    subst this
    rw [Abu] at hq
    refine Aad (Aaa 1 rfl ?_);refine Aae (AaG rfl hq rfl (Nat.le_of_ble_eq_true rfl) rfl) rfl rfl rfl rfl ?_
    refine Aae (Agt rfl rfl) rfl rfl rfl rfl ?_
    refine tl_acc rfl rfl (Acc.mk' hne hb (by rw [hln])) rfl (by simp) rfl (by rw [hln];simp;omega) (Nat.zero_le _) rfl rfl ?_
    intro v' S' ha' _ _
    refine Aae (Abd rfl) rfl rfl rfl rfl ?_;refine Aac (Aad (Aaa 1 rfl ?_))
    refine Aae (Aax (b:=1) rfl rfl (by omega)) rfl rfl rfl rfl ?_;refine Aaa 1 rfl (Aac ?_)
    refine⟨(w+1,v'),by dsimp only;omega,by (repeat' (first | exact Aan | refine Aah rfl ?_)),by dsimp only;omega,by dsimp only;omega,?_⟩
    dsimp only
    rw [hsucc]
    exact ha'
 ·have:w=44:=by omega
  subst this
  have hc:=hcl 44
  generalize rows 44=R at ha hc ⊢
  refine Aab (Aad ?_);refine Aae (Abd rfl) rfl rfl rfl rfl ?_;refine Aae (Abd rfl) rfl rfl rfl rfl ?_;refine Aac ?_
  exact AaD (retd (vs:=[v]) rfl (ha.frz hc))
end Go.Eng.Ses
namespace Go.Eng.Ses
open Go Go.Eng
variable [Inhabited GlobT]
attribute [local irreducible] OpR TL TD TC TS Aaz timesP rol8 boxL
section
variable {α:Type} {o f:Nat→α} {p:Nat→Nat} {N i c j:Nat} {e:α}
def updP (o f:Nat→α) (p:Nat→Nat) (N i:Nat):List α:=(List.range N).map fun n=>if p n<i then f n else o n
@[simp] theorem updP_len:(updP o f p N i).length=N:=by simp [updP]
theorem updP_get (h:j<N):(updP o f p N i).getD j e=if p j<i then f j else o j:=Abj h
theorem AlC (h:j<N) (h2:i≤p j):(updP o f p N i).getD j e=o j:=by rw [updP_get h,if_neg (by omega)]
theorem Afm (hc:c<N) (h:p c=i) (hi:∀ n,n<N→p n=i→n=c):(updP o f p N i).set c (f c)=updP o f p N (i+1):=by
 apply List.ext_getElem?
 intro n
 rw [List.getElem?_set]
 by_cases hn:n<N
 ·have e1:(updP o f p N (i+1))[n]?=some (if p n<i+1 then f n else o n):=by
   unfold updP;rw [List.getElem?_map,List.getElem?_range hn];rfl
  have e2:(updP o f p N i)[n]?=some (if p n<i then f n else o n):=by
   unfold updP;rw [List.getElem?_map,List.getElem?_range hn];rfl
  rw [e1]
  split
  ·rename_i h2
   subst h2
   rw [updP_len,if_pos hc,if_pos (by omega)]
  ·rename_i h2
   rw [e2]
   have:p n≠i:=fun hh=>h2 (hi n hn hh).symm
   by_cases h3:p n<i
   ·rw [if_pos h3,if_pos (by omega)]
   ·rw [if_neg h3,if_neg (by omega)]
 ·rw [if_neg (by omega),List.getElem?_eq_none (by simpa using hn),List.getElem?_eq_none (by simpa using hn)]
theorem updP_zero:updP o f p N 0=(List.range N).map o:=by simp [updP]
theorem AiK (h:∀ n,n<N→p n<i):updP o f p N i=(List.range N).map f:=List.map_congr_left fun n hn=>if_pos (h n (List.mem_range.1 hn))
theorem Adn (l:List UInt8) (n:Nat) (h:l.length=n):(List.range n).map (fun i=>l.getD i 0)=l:=by
 apply List.ext_getElem?
 intro i
 by_cases hi:i<n
 ·rw [List.getElem?_map,List.getElem?_range hi,AdQ (l:=l) (d:=0) (by omega)];rfl
 ·rw [List.getElem?_eq_none (by simp;omega),List.getElem?_eq_none (by omega)]
end
abbrev trI (n:Nat):Nat:=4*(n%4)+n / 4
abbrev trF (X:List UInt8) (n:Nat):UInt8:=X.getD (trI n) 0
def trP (X:List UInt8):List UInt8:=(List.range 16).map (trF X)
@[simp] theorem trP_len (X:List UInt8):(trP X).length=16:=by simp [trP]
theorem AbL (X:List UInt8) (n:Nat) (h:n<16):(trP X).getD n 0=X.getD (trI n) 0:=Abj h
theorem trI_lt (n:Nat) (h:n<16):trI n<16:=by unfold trI;omega
theorem trI_trI (n:Nat) (h:n<16):trI (trI n)=n:=by unfold trI;omega
theorem tr_turn (X:List UInt8) (n:Nat) (h:n<16):trF (turnP X) n=boxL.getD ((trP X).getD (n / 4*4+(n%4+n / 4)%4) 0).toNat 0:=by
 rw [AbL X _ (by omega),trF,turnP,Abj (trI_lt n h),turnB,bt]
 have:(trI n+4*(trI n%4))%16=trI (n / 4*4+(n%4+n / 4)%4):=by
  have e:∀ n,n<16→(trI n+4*(trI n%4))%16=trI (n / 4*4+(n%4+n / 4)%4):=by decide
  exact e n h
 rw [this]
 rfl
theorem tr_add (X W:List UInt8) (n:Nat) (h:n<16):trF (addP X W) n=UInt8.ofBitVec (((trP X).getD n 0).toBitVec ^^^ ((W.getD (trI n) 0)).toBitVec):=by
 rw [AbL X _ h,trF,addP,Abj (trI_lt n h)]
 rfl
theorem blk_word (k:List UInt8) (r n:Nat) (hr:r≤10) (h:n<16):(blkP (schP k) r).getD (trI n) 0=(wordB k (4*r+n%4)).getD (n / 4) 0:=by
 rw [wordB_get k _ _ (by omega),blkP,List.getD_eq_getElem?_getD,List.getElem?_take,if_pos (trI_lt n h),List.getElem?_drop,←List.getD_eq_getElem?_getD,schP,Abj (by have:=trI_lt n h;omega)]
 congr 1
 unfold trI;omega
theorem tr_mix0 (X:List UInt8) (c:Nat) (h:c<4):trF (mixP X) c=UInt8.ofBitVec (timesP ((trP X).getD c 0).toBitVec 2 ^^^ timesP ((trP X).getD (4+c) 0).toBitVec 3 ^^^ ((trP X).getD (8+c) 0).toBitVec ^^^ ((trP X).getD (12+c) 0).toBitVec):=by
 obtain rfl | rfl | rfl | rfl:c=0∨c=1∨c=2∨c=3:=by omega
 all_goals
  rw [AbL X _ (by omega),AbL X _ (by omega),AbL X _ (by omega),AbL X _ (by omega)]
  rfl
theorem tr_mix1 (X:List UInt8) (c:Nat) (h:c<4):trF (mixP X) (4+c)=UInt8.ofBitVec (((trP X).getD c 0).toBitVec ^^^ timesP ((trP X).getD (4+c) 0).toBitVec 2 ^^^ timesP ((trP X).getD (8+c) 0).toBitVec 3 ^^^ ((trP X).getD (12+c) 0).toBitVec):=by
 have e:∀ a b c d:BitVec 8,a ^^^ b ^^^ c ^^^ d=b ^^^ c ^^^ d ^^^ a:=fun a b c d=>by ac_rfl
 rw [e]
 obtain rfl | rfl | rfl | rfl:c=0∨c=1∨c=2∨c=3:=by omega
 all_goals
  rw [AbL X _ (by omega),AbL X _ (by omega),AbL X _ (by omega),AbL X _ (by omega)]
  rfl
theorem tr_mix2 (X:List UInt8) (c:Nat) (h:c<4):trF (mixP X) (8+c)=UInt8.ofBitVec (((trP X).getD c 0).toBitVec ^^^ ((trP X).getD (4+c) 0).toBitVec ^^^ timesP ((trP X).getD (8+c) 0).toBitVec 2 ^^^ timesP ((trP X).getD (12+c) 0).toBitVec 3):=by
 have e:∀ a b c d:BitVec 8,a ^^^ b ^^^ c ^^^ d=c ^^^ d ^^^ a ^^^ b:=fun a b c d=>by ac_rfl
 rw [e]
 obtain rfl | rfl | rfl | rfl:c=0∨c=1∨c=2∨c=3:=by omega
 all_goals
  rw [AbL X _ (by omega),AbL X _ (by omega),AbL X _ (by omega),AbL X _ (by omega)]
  rfl
theorem tr_mix3 (X:List UInt8) (c:Nat) (h:c<4):trF (mixP X) (12+c)=UInt8.ofBitVec (timesP ((trP X).getD c 0).toBitVec 3 ^^^ ((trP X).getD (4+c) 0).toBitVec ^^^ ((trP X).getD (8+c) 0).toBitVec ^^^ timesP ((trP X).getD (12+c) 0).toBitVec 2):=by
 have e:∀ a b c d:BitVec 8,a ^^^ b ^^^ c ^^^ d=d ^^^ a ^^^ b ^^^ c:=fun a b c d=>by ac_rfl
 rw [e]
 obtain rfl | rfl | rfl | rfl:c=0∨c=1∨c=2∨c=3:=by omega
 all_goals
  rw [AbL X _ (by omega),AbL X _ (by omega),AbL X _ (by omega),AbL X _ (by omega)]
  rfl
end Go.Eng.Ses
namespace Go.Eng.Ses
open Go Go.Eng
variable [Inhabited GlobT]
attribute [local irreducible] OpR TL TD TC TS Aaz timesP rol8 boxL addP turnP mixP trP wordB
theorem trP_def (X:List UInt8):(List.range 16).map (trF X)=trP X:=by unfold trP;rfl
theorem trI_at (i:Nat) (h:i<16):trI (i%4*4+i / 4)=i:=by unfold trI;omega
theorem trI_inj (a b:Nat) (ha:a<16) (hb:b<16) (h:trI a=trI b):a=b:=by
 rw [←trI_trI a ha,←trI_trI b hb,h]
theorem mix_sets {o f:Nat→UInt8} (c:Nat) (hc:c<4):((((updP o f trI 16 (4*c)).set c (f c)).set (4+c) (f (4+c))).set (8+c) (f (8+c))).set (12+c) (f (12+c))=updP o f trI 16 (4*(c+1)):=by
 have e:∀ r c,r<4→c<4→trI (4*r+c)=4*c+r:=by intro r c hr hc;unfold trI;omega
 have u:∀ r c,r<4→c<4→∀ n,n<16→trI n=4*c+r→n=4*r+c:=fun r c hr hc n hn h=>trI_inj n _ hn (by omega) (by rw [h,e r c hr hc])
 have e0:=e 0 c (by omega) hc
 have e1:=e 1 c (by omega) hc
 have e2:=e 2 c (by omega) hc
 have e3:=e 3 c (by omega) hc
 have u0:=u 0 c (by omega) hc
 have u1:=u 1 c (by omega) hc
 have u2:=u 2 c (by omega) hc
 have u3:=u 3 c (by omega) hc
 simp only [Nat.mul_zero,Nat.zero_add,Nat.add_zero,Nat.mul_one] at e0 e1 u0 u1
 rw [Afm (c:=c) (by omega) e0 u0,Afm (c:=4+c) (by omega) e1 u1,Afm (c:=8+c) (by omega) e2 u2,Afm (c:=12+c) (by omega) e3 u3]
 rfl
theorem first_cell (k b:List UInt8) (i:Nat) (h:i<16):trF (addP b (blkP (schP k) 0)) (i%4*4+i / 4)=UInt8.ofBitVec ((b.getD i 0).toBitVec ^^^ ((wordB k (i / 4)).getD (i%4) 0).toBitVec):=by
 rw [tr_add b _ _ (by omega),AbL b _ (by omega),blk_word k 0 _ (by omega) (by omega),trI_at i h]
 rw [show 4*0+(i%4*4+i / 4)%4=i / 4 by omega,show (i%4*4+i / 4) / 4=i%4 by omega]
set_option maxHeartbeats 2000000 in
theorem by_ok (k b:List UInt8) (hk:k.length=16) (hb:b.length=16):Aaz AP0 f_r05_By [.imm (boxL.map fun b=>[g8 b]),.imm ((List.range 44).map fun w=>(wordB k w).map g8),.agg (b.map g8)] (.agg ((encP (schP k) b).map g8)):=by
 have hbox:=AeD
 obtain⟨bx,hbx⟩:∃ bx,(boxL.map fun b=>[g8 b])=bx:=⟨_,rfl⟩
 have bget:∀ n,n<256→bx[n]?=some [g8 (boxL.getD n 0)]:=fun n h=>by
  rw [←hbx,List.getElem?_map,AdQ (d:=0) (by omega)];rfl
 obtain⟨ws,hws⟩:∃ ws,((List.range 44).map fun w=>(wordB k w).map g8)=ws:=⟨_,rfl⟩
 have wget:∀ n,n<44→ws[n]?=some ((wordB k n).map g8):=fun n h=>by
  rw [←hws,List.getElem?_map,List.getElem?_range h];rfl
 rw [hbx,hws]
 clear hbx hws
 have hwl:=wordB_len k
 refine Aav (af:=c_r05_By) rfl rfl ?_
 refine Aab (Aad ?_);refine Abh (Afa rfl (by simp;omega)) rfl rfl rfl rfl ?_;refine Aaa 1 rfl (Aac ?_)
 refine Aab (Aad (Aaa 1 rfl (Aac (Aab (Aab (Aad ?_))))))
 refine Aaa 1 rfl (Aac ?_)
 refine Aak (AaE (σ:=Nat) (fun i=>16 - i) (fun i=>[(0,.imm bx),(1,.imm ws),(5,.ptr 0 0 0),(6,.ptr 1 0 0),(7,.ptr 2 0 0),(8,n64 i)])
  (fun i S=>i≤16∧S=[some ⟨16,[b.map g8]⟩,some ⟨16,[zs .u8 16]⟩,some ⟨16,[(updP (fun _=>0) (trF (addP b (blkP (schP k) 0))) trI 16 i).map g8]⟩]) 0 (by (repeat' (first | exact Aan | refine Aah rfl ?_))) ⟨by omega,rfl⟩ ?_)
 rintro i S ⟨hi,rfl⟩
 refine Aab (Aab (Aad (Aaa 2 rfl (Aac ?_))))
 refine Aar rfl decide_eq_true_iff (fun h=>Aao ?_) (fun h=>AaA ?_)
 ·have hi':i<16:=by omega
  refine Aab ?_;refine Aak ?_;refine AaH rfl ?_;refine Aal 1 rfl ?_;refine Aai rfl rfl (Acj (b:=4) rfl rfl (by omega)) ?_
  refine Aal 1 rfl ?_;refine Aai rfl rfl (o_quon (b:=4) rfl rfl (by omega) (Adp (by omega))) ?_;refine Aal 1 rfl ?_
  refine Aai rfl rfl (Abx rfl rfl (by omega)) ?_;refine Aai rfl rfl (Abr 0 rfl rfl (by omega)) ?_;refine Aal 2 rfl ?_
  refine Aai rfl rfl (o_quon (b:=4) rfl rfl (by omega) (Adp (by omega))) ?_;refine Aal 1 rfl ?_
  refine Aai rfl rfl (Acj (b:=4) rfl rfl (by omega)) ?_
  refine Aai rfl rfl (Ack rfl rfl (wget (i / 4) (by omega)) (by simp [hwl])) ?_
  refine Aai rfl rfl (o_iaR1 rfl rfl (by omega)) ?_;refine Aai rfl rfl (AlL 0 rfl (by simp;omega)) ?_
  refine Aai rfl rfl (Aas rfl rfl (AaW _ _)) ?_;refine Aai rfl rfl (o_iaP0 rfl rfl (by omega)) ?_
  refine Aai rfl rfl (Aed rfl rfl (by omega)) ?_;refine Aai rfl rfl (Abw rfl rfl rfl (by simp;omega)) ?_;refine AaQ ?_;refine⟨rfl,?_⟩
  refine Aad (Aaa 1 rfl ?_);refine Aae (Aax (b:=1) rfl rfl (by omega)) rfl rfl rfl rfl ?_;refine Aaa 1 rfl ?_
  refine Aac ?_
  refine⟨i+1,by omega,by (repeat' (first | exact Aan | refine Aah rfl ?_)),by omega,?_⟩
  rw [←Afm (c:=i%4*4+i / 4) (by omega) (trI_at i hi') (fun n hn h=>by rw [←trI_at i hi'] at h;exact trI_inj _ _ hn (by omega) h),first_cell k b i hi',Nat.mul_one]
  rfl
 ·have:i=16:=by omega
  subst this
  rw [AiK (fun n hn=>trI_lt n hn),trP_def,show addP b (blkP (schP k) 0)=encS (schP k) b 0 from rfl]
  refine Aab (Aab (Aad (Aaa 1 rfl (Aac ?_))))
  refine Aak (AaE (σ:=Nat) (fun r=>10 - r) (fun r=>[(0,.imm bx),(1,.imm ws),(6,.ptr 1 0 0),(7,.ptr 2 0 0),(9,n64 (r+1))])
   (fun r S=>r≤10∧S[1]?=some (some ⟨16,[zs .u8 16]⟩)∧S[2]?=some (some ⟨16,[(trP (encS (schP k) b r)).map g8]⟩)) 0 (by (repeat' (first | exact Aan | refine Aah rfl ?_))) ⟨by omega,rfl,rfl⟩ ?_)
  rintro r S ⟨hr,h1,h2⟩
  have hs:encS (schP k) b (r+1)=addP (if r+1<10 then mixP (turnP (encS (schP k) b r)) else turnP (encS (schP k) b r)) (blkP (schP k) (r+1)):=rfl
  generalize hX:encS (schP k) b r=X at h2 hs ⊢
  have hXl:=trP_len X
  refine Aab (Aab (Aad (Aaa 2 rfl (Aac ?_))))
  refine Aar rfl decide_eq_true_iff (fun h=>Aao ?_) (fun h=>AaA ?_)
  ·have hr':r<10:=by omega
   refine Aab ?_;refine Aak ?_;refine Aab (Aad ?_);refine Adh rfl rfl ?_;refine Aac (Aab ?_)
   refine Aab (Aad (Aaa 1 rfl (Aac ?_)))
   have hq3:2<S.length:=(List.getElem?_eq_some_iff.1 h2).1
   obtain⟨T,hT⟩:∃ T,S++[some ⟨16,[(updP (fun _=>0) (trF (turnP X)) (fun n=>n) 16 (4*0)).map g8]⟩]=T:=⟨_,rfl⟩
   have t1:=hT▸Aba (r:=[some ⟨16,[(updP (fun _=>0) (trF (turnP X)) (fun n=>n) 16 (4*0)).map g8]⟩]) h1
   have t2:=hT▸Aba (r:=[some ⟨16,[(updP (fun _=>0) (trF (turnP X)) (fun n=>n) 16 (4*0)).map g8]⟩]) h2
   have tq:T[S.length]?=some (some ⟨16,[(updP (fun _=>0) (trF (turnP X)) (fun n=>n) 16 (4*0)).map g8]⟩):=hT▸Abc
   show TC _ _ _ _ (S++[some ⟨16,[(updP (fun _=>0) (trF (turnP X)) (fun n=>n) 16 (4*0)).map g8]⟩]) _
   rw [hT]
   generalize S.length=q at hq3 tq ⊢
   clear hT h1 h2 S
   refine Aak (AaE (σ:=Nat) (fun a=>4 - a) (fun a=>[(0,.imm bx),(1,.imm ws),(6,.ptr 1 0 0),(7,.ptr 2 0 0),(9,n64 (r+1)),(10,.ptr q 0 0),(11,n64 a)])
    (fun a S=>a≤4∧S[1]?=some (some ⟨16,[zs .u8 16]⟩)∧S[2]?=some (some ⟨16,[(trP X).map g8]⟩)∧S[q]?=some (some ⟨16,[(updP (fun _=>0) (trF (turnP X)) (fun n=>n) 16 (4*a)).map g8]⟩)) 0 (by (repeat' (first | exact Aan | refine Aah rfl ?_))) ⟨by omega,t1,t2,tq⟩ ?_)
   clear t1 t2 tq T
   rintro a S ⟨ha,h1,h2,hq⟩
   refine Aab (Aab (Aad (Aaa 2 rfl (Aac ?_))))
   refine Aar rfl decide_eq_true_iff (fun h=>Aao ?_) (fun h=>AaA ?_)
   ·have ha':a<4:=by omega
    refine Aab ?_;refine Aak ?_;refine Aab (Aad (Aaa 1 rfl (Aac ?_)))
    refine Aak (AaE (σ:=Nat) (fun c=>4 - c) (fun c=>[(0,.imm bx),(1,.imm ws),(6,.ptr 1 0 0),(7,.ptr 2 0 0),(9,n64 (r+1)),(10,.ptr q 0 0),(11,n64 a),(12,n64 c)])
     (fun c S=>c≤4∧S[1]?=some (some ⟨16,[zs .u8 16]⟩)∧S[2]?=some (some ⟨16,[(trP X).map g8]⟩)∧S[q]?=some (some ⟨16,[(updP (fun _=>0) (trF (turnP X)) (fun n=>n) 16 (4*a+c)).map g8]⟩)) 0 (by (repeat' (first | exact Aan | refine Aah rfl ?_))) ⟨by omega,h1,h2,hq⟩ ?_)
    clear h1 h2 hq S
    rintro c S ⟨hc,h1,h2,hq⟩
    refine Aab (Aab (Aad (Aaa 2 rfl (Aac ?_))))
    refine Aar rfl decide_eq_true_iff (fun h=>Aao ?_) (fun h=>AaA ?_)
    ·have hc':c<4:=by omega
     have hcell:=tr_turn X (4*a+c) (by omega)
     rw [show (4*a+c) / 4=a by omega,show (4*a+c)%4=c by omega] at hcell
     refine Aab ?_;refine Aak ?_;refine AaH rfl ?_;refine Aal 6 rfl ?_;refine Aai rfl rfl (Aax rfl rfl (by omega)) ?_
     refine Aai rfl rfl (Acj (b:=4) rfl rfl (by omega)) ?_;refine Aai rfl rfl (o_iaP0 rfl rfl (by omega)) ?_
     refine Aai rfl rfl (Aed rfl rfl (by omega)) ?_;refine Aai rfl rfl (Abr 0 rfl h2 (by omega)) ?_
     refine Aai rfl rfl (Ack rfl rfl (bget _ (UInt8.toNat_lt _)) rfl) ?_
     refine Aal 1 rfl ?_;refine Aai rfl rfl (o_iaP0 rfl rfl (by omega)) ?_;refine Aai rfl rfl (Aed rfl rfl (by omega)) ?_
     refine Aai rfl rfl (Abw rfl rfl hq (by simp;omega)) ?_;refine AaQ ?_;refine⟨rfl,?_⟩;refine Aad (Aaa 1 rfl ?_)
     refine Aae (Aax (b:=1) rfl rfl (by omega)) rfl rfl rfl rfl ?_;refine Aaa 1 rfl (Aac ?_)
     refine⟨c+1,by omega,by (repeat' (first | exact Aan | refine Aah rfl ?_)),by omega,Aay (by omega) h1,Aay (by omega) h2,(Aam hq).trans ?_⟩
     rw [←Nat.add_assoc,←Afm (c:=4*a+c) (by omega) rfl (fun n _ h=>h),hcell]
     rw [show a*4+c*1=4*a+c by omega,show (c+a)%4*1=(c+a)%4 by omega]
    ·have:c=4:=by omega
     subst this
     refine Aad (Aaa 1 rfl ?_);refine Aae (Aax (b:=1) rfl rfl (by omega)) rfl rfl rfl rfl ?_;refine Aaa 1 rfl ?_
     refine Aac ?_
     exact⟨a+1,by omega,by (repeat' (first | exact Aan | refine Aah rfl ?_)),by omega,h1,h2,hq⟩
   ·have:a=4:=by omega
    subst this
    rw [AiK (fun n hn=>hn),trP_def] at hq
    clear h
    refine tc_cut (σ:=List UInt8) (fun Y=>[(0,.imm bx),(1,.imm ws),(6,.ptr 1 0 0),(7,.ptr 2 0 0),(9,n64 (r+1)),(10,.ptr q 0 0)])
     (fun Y S=>encS (schP k) b (r+1)=addP Y (blkP (schP k) (r+1))∧S[1]?=some (some ⟨16,[zs .u8 16]⟩)∧S[2]?=some (some ⟨16,[(trP X).map g8]⟩)∧S[q]?=some (some ⟨16,[(trP Y).map g8]⟩)) ?_ ?_
    ·generalize hY:turnP X=Y at hq hs
     have hYl:=trP_len Y
     refine Aab (Aad (Aaa 2 rfl (Aac ?_)))
     refine Aar rfl decide_eq_true_iff (fun h=>?_) (fun h=>Aao ?_)
     ·rw [if_pos (by omega)] at hs
      refine Aab (Aad (Aaa 1 rfl (Aac ?_)))
      have hq0:S[q]?=some (some ⟨16,[(updP (fun n=>(trP Y).getD n 0) (trF (mixP Y)) trI 16 (4*0)).map g8]⟩):=by
       rw [hq,updP_zero,Adn _ 16 hYl]
      refine Aak (AaE (σ:=Nat) (fun c=>4 - c) (fun c=>[(0,.imm bx),(1,.imm ws),(6,.ptr 1 0 0),(7,.ptr 2 0 0),(9,n64 (r+1)),(10,.ptr q 0 0),(13,n64 c)])
       (fun c S=>c≤4∧S[1]?=some (some ⟨16,[zs .u8 16]⟩)∧S[2]?=some (some ⟨16,[(trP X).map g8]⟩)∧S[q]?=some (some ⟨16,[(updP (fun n=>(trP Y).getD n 0) (trF (mixP Y)) trI 16 (4*c)).map g8]⟩)) 0 (by (repeat' (first | exact Aan | refine Aah rfl ?_))) ⟨by omega,h1,h2,hq0⟩ ?_)
      clear h1 h2 hq hq0 S
      rintro c S ⟨hc,h1,h2,hq⟩
      refine Aab (Aab (Aad (Aaa 2 rfl (Aac ?_))))
      refine Aar rfl decide_eq_true_iff (fun h=>Aao ?_) (fun h=>AaA ?_)
      ·have hc':c<4:=by omega
       have o0:(updP (fun n=>(trP Y).getD n 0) (trF (mixP Y)) trI 16 (4*c)).getD c 0=(trP Y).getD c 0:=AlC (by omega) (by unfold trI;omega)
       have o1:(updP (fun n=>(trP Y).getD n 0) (trF (mixP Y)) trI 16 (4*c)).getD (4+c) 0=(trP Y).getD (4+c) 0:=AlC (by omega) (by unfold trI;omega)
       have o2:(updP (fun n=>(trP Y).getD n 0) (trF (mixP Y)) trI 16 (4*c)).getD (8+c) 0=(trP Y).getD (8+c) 0:=AlC (by omega) (by unfold trI;omega)
       have o3:(updP (fun n=>(trP Y).getD n 0) (trF (mixP Y)) trI 16 (4*c)).getD (12+c) 0=(trP Y).getD (12+c) 0:=AlC (by omega) (by unfold trI;omega)
       have m0:=tr_mix0 Y c hc'
       have m1:=tr_mix1 Y c hc'
       have m2:=tr_mix2 Y c hc'
       have m3:=tr_mix3 Y c hc'
       have n1:0+Int.toNat 1*4+c*1=4+c:=by show 0+1*4+c*1=_;omega
       have n2:0+Int.toNat 2*4+c*1=8+c:=by show 0+2*4+c*1=_;omega
       have n3:0+Int.toNat 3*4+c*1=12+c:=by show 0+3*4+c*1=_;omega
       refine Aab ?_;refine Aak ?_;refine Aab ?_;refine AaH rfl ?_;refine Aal 2 rfl ?_
       refine Aai rfl rfl (Abx rfl rfl (by omega)) ?_;refine Aai rfl rfl (Abr 0 rfl hq (by simp;omega)) ?_;refine Aal 2 rfl ?_
       refine Aai rfl rfl (Aed rfl rfl (by omega)) ?_;refine Aai rfl rfl (Abr 0 rfl hq (by simp;omega)) ?_;refine Aal 2 rfl ?_
       refine Aai rfl rfl (Aed rfl rfl (by omega)) ?_;refine Aai rfl rfl (Abr 0 rfl hq (by simp;omega)) ?_;refine Aal 2 rfl ?_
       refine Aai rfl rfl (Aed rfl rfl (by omega)) ?_;refine Aai rfl rfl (Abr 0 rfl hq (by simp;omega)) ?_;refine Aal 4 rfl ?_
       refine AaQ ?_;refine⟨rfl,?_⟩;refine Aab (Aad (Aaa 2 rfl ?_))
       refine Aap rfl rfl (Ach _ 2) rfl rfl rfl rfl rfl rfl ?_;refine Aaa 1 rfl ?_
       refine Aap rfl rfl (Ach _ 3) rfl rfl rfl rfl rfl rfl ?_;refine Aae (Aas rfl rfl (AaW _ _)) rfl rfl rfl rfl ?_
       refine Aaa 1 rfl ?_;refine Aae (Aas rfl rfl (AaW _ _)) rfl rfl rfl rfl ?_;refine Aaa 1 rfl ?_
       refine Aae (Aas rfl rfl (AaW _ _)) rfl rfl rfl rfl ?_;refine Aaa 1 rfl ?_;refine Aae (Abx rfl rfl (by omega)) rfl rfl rfl rfl ?_
       refine Aae (Abw rfl rfl hq (by simp;omega)) rfl rfl rfl rfl ?_;refine Aac (Aab (Aad (Aaa 3 rfl ?_)))
       refine Aap rfl rfl (Ach _ 2) rfl rfl rfl rfl rfl rfl ?_;refine Aae (Aas rfl rfl (AaW _ _)) rfl rfl rfl rfl ?_
       refine Aaa 1 rfl ?_;refine Aap rfl rfl (Ach _ 3) rfl rfl rfl rfl rfl rfl ?_
       refine Aae (Aas rfl rfl (AaW _ _)) rfl rfl rfl rfl ?_;refine Aaa 1 rfl ?_;refine Aae (Aas rfl rfl (AaW _ _)) rfl rfl rfl rfl ?_
       refine Aaa 1 rfl ?_;refine Aae (Aed rfl rfl (by omega)) rfl rfl rfl rfl ?_
       refine Aae (Abw rfl rfl (Aam hq) (by simp;omega)) rfl rfl rfl rfl ?_;refine Aac (Aab (Aad ?_))
       refine Aaa 3 rfl ?_;refine Aae (Aas rfl rfl (AaW _ _)) rfl rfl rfl rfl ?_;refine Aaa 1 rfl ?_
       refine Aap rfl rfl (Ach _ 2) rfl rfl rfl rfl rfl rfl ?_;refine Aae (Aas rfl rfl (AaW _ _)) rfl rfl rfl rfl ?_
       refine Aaa 1 rfl ?_;refine Aap rfl rfl (Ach _ 3) rfl rfl rfl rfl rfl rfl ?_
       refine Aae (Aas rfl rfl (AaW _ _)) rfl rfl rfl rfl ?_;refine Aaa 1 rfl ?_;refine Aae (Aed rfl rfl (by omega)) rfl rfl rfl rfl ?_
       refine Aae (Abw rfl rfl (Aam (Aam hq)) (by simp;omega)) rfl rfl rfl rfl ?_;refine Aac (Aad ?_)
       refine Aaa 2 rfl ?_;refine Aap rfl rfl (Ach _ 3) rfl rfl rfl rfl rfl rfl ?_;refine Aaa 1 rfl ?_
       refine Aae (Aas rfl rfl (AaW _ _)) rfl rfl rfl rfl ?_;refine Aaa 1 rfl ?_;refine Aae (Aas rfl rfl (AaW _ _)) rfl rfl rfl rfl ?_
       refine Aaa 1 rfl ?_;refine Aap rfl rfl (Ach _ 2) rfl rfl rfl rfl rfl rfl ?_
       refine Aae (Aas rfl rfl (AaW _ _)) rfl rfl rfl rfl ?_;refine Aaa 1 rfl ?_;refine Aae (Aed rfl rfl (by omega)) rfl rfl rfl rfl ?_
       refine Aae (Abw rfl rfl (Aam (Aam (Aam hq))) (by simp;omega)) rfl rfl rfl rfl ?_;refine Aac (Aad ?_)
       refine Aaa 1 rfl ?_;refine Aae (Aax (b:=1) rfl rfl (by omega)) rfl rfl rfl rfl ?_;refine Aaa 1 rfl (Aac ?_)
       refine⟨c+1,by omega,by (repeat' (first | exact Aan | refine Aah rfl ?_)),by omega,Aay (by omega) (Aay (by omega) (Aay (by omega) (Aay (by omega) h1))),Aay (by omega) (Aay (by omega) (Aay (by omega) (Aay (by omega) h2))),(Aam (Aam (Aam (Aam hq)))).trans ?_⟩
       rw [n1,n2,n3,←mix_sets c hc',m0,m1,m2,m3,←o0,←o1,←o2,←o3]
      ·have:c=4:=by omega
       subst this
       rw [AiK (fun n hn=>trI_lt n hn),trP_def] at hq
       exact⟨mixP Y,by (repeat' (first | exact Aan | refine Aah rfl ?_)),hs,h1,h2,hq⟩
     ·rw [if_neg (by omega)] at hs
      exact⟨Y,by (repeat' (first | exact Aan | refine Aah rfl ?_)),hs,h1,h2,hq⟩
    ·rintro Y S ⟨hs,h1,h2,hq⟩
     have hYl:=trP_len Y
     refine Aab (Aad (Aaa 1 rfl (Aac ?_)))
     have hZ0:S[2]?=some (some ⟨16,[(updP (fun n=>(trP X).getD n 0) (trF (addP Y (blkP (schP k) (r+1)))) (fun n=>n) 16 (4*0)).map g8]⟩):=by
      rw [h2,updP_zero,Adn _ 16 hXl]
     refine Aak (AaE (σ:=Nat) (fun a=>4 - a) (fun a=>[(0,.imm bx),(1,.imm ws),(6,.ptr 1 0 0),(7,.ptr 2 0 0),(9,n64 (r+1)),(10,.ptr q 0 0),(18,n64 a)])
      (fun a S=>a≤4∧S[1]?=some (some ⟨16,[zs .u8 16]⟩)∧S[q]?=some (some ⟨16,[(trP Y).map g8]⟩)∧S[2]?=some (some ⟨16,[(updP (fun n=>(trP X).getD n 0) (trF (addP Y (blkP (schP k) (r+1)))) (fun n=>n) 16 (4*a)).map g8]⟩)) 0 (by (repeat' (first | exact Aan | refine Aah rfl ?_))) ⟨by omega,h1,hq,hZ0⟩ ?_)
     clear h1 h2 hq hZ0 S
     rintro a S ⟨ha,h1,hq,h2⟩
     refine Aab (Aab (Aad (Aaa 2 rfl (Aac ?_))))
     refine Aar rfl decide_eq_true_iff (fun h=>Aao ?_) (fun h=>AaA ?_)
     ·have ha':a<4:=by omega
      refine Aab (Aak ?_)
      refine Aab (Aad (Aaa 1 rfl (Aac ?_)))
      refine Aak (AaE (σ:=Nat) (fun c=>4 - c) (fun c=>[(0,.imm bx),(1,.imm ws),(6,.ptr 1 0 0),(7,.ptr 2 0 0),(9,n64 (r+1)),(10,.ptr q 0 0),(18,n64 a),(19,n64 c)])
       (fun c S=>c≤4∧S[1]?=some (some ⟨16,[zs .u8 16]⟩)∧S[q]?=some (some ⟨16,[(trP Y).map g8]⟩)∧S[2]?=some (some ⟨16,[(updP (fun n=>(trP X).getD n 0) (trF (addP Y (blkP (schP k) (r+1)))) (fun n=>n) 16 (4*a+c)).map g8]⟩)) 0 (by (repeat' (first | exact Aan | refine Aah rfl ?_))) ⟨by omega,h1,hq,h2⟩ ?_)
      clear h1 h2 hq S
      rintro c S ⟨hc,h1,hq,h2⟩
      refine Aab (Aab (Aad (Aaa 2 rfl (Aac ?_))))
      refine Aar rfl decide_eq_true_iff (fun h=>Aao ?_) (fun h=>AaA ?_)
      ·have hc':c<4:=by omega
       have hcell:=tr_add Y (blkP (schP k) (r+1)) (4*a+c) (by omega)
       rw [blk_word k (r+1) _ (by omega) (by omega),show (4*a+c) / 4=a by omega,show (4*a+c)%4=c by omega] at hcell
       refine Aab ?_;refine Aak ?_;refine AaH rfl ?_;refine Aal 4 rfl ?_;refine Aai rfl rfl (o_iaP0 rfl rfl (by omega)) ?_
       refine Aai rfl rfl (Aed rfl rfl (by omega)) ?_;refine Aai rfl rfl (Abr 0 rfl hq (by omega)) ?_;refine Aal 2 rfl ?_
       refine Aai rfl rfl (Aey (a:=4) rfl rfl (by omega)) ?_;refine Aal 1 rfl ?_;refine Aai rfl rfl (Aax rfl rfl (by omega)) ?_
       refine Aal 1 rfl ?_
       refine Aai rfl rfl (Ack rfl rfl (wget (4*(r+1)+c) (by omega)) (by simp [hwl])) ?_
       refine Aai rfl rfl (o_iaR1 rfl rfl (by omega)) ?_;refine Aai rfl rfl (AlL 0 rfl (by simp;omega)) ?_
       refine Aai rfl rfl (Aas rfl rfl (AaW _ _)) ?_;refine Aai rfl rfl (o_iaP0 rfl rfl (by omega)) ?_
       refine Aai rfl rfl (Aed rfl rfl (by omega)) ?_;refine Aai rfl rfl (Abw rfl rfl h2 (by simp;omega)) ?_;refine AaQ ?_;refine⟨rfl,?_⟩
       refine Aad (Aaa 1 rfl ?_);refine Aae (Aax (b:=1) rfl rfl (by omega)) rfl rfl rfl rfl ?_;refine Aaa 1 rfl ?_
       refine Aac ?_
       refine⟨c+1,by omega,by (repeat' (first | exact Aan | refine Aah rfl ?_)),by omega,Aay (by omega) h1,Aay (by omega) hq,(Aam h2).trans ?_⟩
       rw [←Nat.add_assoc,←Afm (c:=4*a+c) (by omega) rfl (fun n _ h=>h),hcell,show a*4+c*1=4*a+c by omega]
      ·have:c=4:=by omega
       subst this
       refine Aad (Aaa 1 rfl ?_);refine Aae (Aax (b:=1) rfl rfl (by omega)) rfl rfl rfl rfl ?_;refine Aaa 1 rfl ?_
       refine Aac ?_
       exact⟨a+1,by omega,by (repeat' (first | exact Aan | refine Aah rfl ?_)),by omega,h1,hq,h2⟩
     ·have:a=4:=by omega
      subst this
      rw [AiK (fun n hn=>hn),trP_def,←hs] at h2
      refine Aad (Aaa 1 rfl ?_);refine Aae (Aax (b:=1) rfl rfl (by omega)) rfl rfl rfl rfl ?_;refine Aaa 1 rfl ?_
      refine Aac ?_
      exact⟨r+1,by omega,by (repeat' (first | exact Aan | refine Aah rfl ?_)),by omega,h1,h2⟩
  ·have:r=10:=by omega
   subst this
   rw [show X=encP (schP k) b from hX.symm] at h2
   have hel:(encP (schP k) b).length=16:=encS_len _ _ 10
   have heg:∀ i,i<16→(trP (encP (schP k) b)).getD (i%4*4+i / 4) 0=(encP (schP k) b).getD i 0:=fun i hi=>by
    rw [AbL _ _ (by omega),trI_at i hi]
   have hxl:=trP_len (encP (schP k) b)
   have hres:(List.range 16).map (fun i=>(encP (schP k) b).getD i 0)=encP (schP k) b:=Adn _ 16 hel
   clear hs hX hXl
   generalize encP (schP k) b=E at h2 hel heg hxl hres ⊢
   refine Aab (Aad ?_);refine Adh rfl rfl ?_;refine Aac (Aab (Aab (Aad ?_)))
   refine Aaa 1 rfl (Aac ?_)
   have hq3:2<S.length:=(List.getElem?_eq_some_iff.1 h2).1
   obtain⟨T,hT⟩:∃ T,S++[some ⟨16,[(fillA 0 (fun i=>E.getD i 0) 16 0).map g8]⟩]=T:=⟨_,rfl⟩
   have t1:=hT▸Aba (r:=[some ⟨16,[(fillA 0 (fun i=>E.getD i 0) 16 0).map g8]⟩]) h1
   have t2:=hT▸Aba (r:=[some ⟨16,[(fillA 0 (fun i=>E.getD i 0) 16 0).map g8]⟩]) h2
   have tq:T[S.length]?=some (some ⟨16,[(fillA 0 (fun i=>E.getD i 0) 16 0).map g8]⟩):=hT▸Abc
   show TC _ _ _ _ (S++[some ⟨16,[(fillA 0 (fun i=>E.getD i 0) 16 0).map g8]⟩]) _
   rw [hT]
   generalize S.length=q at hq3 tq ⊢
   clear hT h1 h2 S
   refine Aak (AaE (σ:=Nat) (fun i=>16 - i) (fun i=>[(6,.ptr 1 0 0),(7,.ptr 2 0 0),(20,.ptr q 0 0),(21,n64 i)])
    (fun i S=>i≤16∧S[1]?=some (some ⟨16,[zs .u8 16]⟩)∧S[2]?=some (some ⟨16,[(trP E).map g8]⟩)∧S[q]?=some (some ⟨16,[(fillA 0 (fun i=>E.getD i 0) 16 i).map g8]⟩)) 0 (by (repeat' (first | exact Aan | refine Aah rfl ?_))) ⟨by omega,t1,t2,tq⟩ ?_)
   clear t1 t2 tq T
   rintro i S ⟨hi,h1,h2,hq⟩
   refine Aab (Aab (Aad (Aaa 2 rfl (Aac ?_))))
   refine Aar rfl decide_eq_true_iff (fun h=>Aao ?_) (fun h=>AaA ?_)
   ·have hi':i<16:=by omega
    have he:=heg i hi'
    refine Aab ?_;refine Aak ?_;refine Aad (Aaa 2 rfl ?_);refine Aae (Acj (b:=4) rfl rfl (by omega)) rfl rfl rfl rfl ?_
    refine Aaa 1 rfl ?_;refine Aae (o_quon (b:=4) rfl rfl (by omega) (Adp (by omega))) rfl rfl rfl rfl ?_
    refine Aae (o_iaP0 rfl rfl (by omega)) rfl rfl rfl rfl ?_;refine Aae (Aed rfl rfl (by omega)) rfl rfl rfl rfl ?_
    refine Aae (Abr 0 rfl h2 (by omega)) rfl rfl rfl rfl ?_;refine Aae (Abx rfl rfl (by omega)) rfl rfl rfl rfl ?_
    refine Aae (Abw rfl rfl hq (by simp;omega)) rfl rfl rfl rfl ?_;refine Aac (Aad (Aaa 1 rfl ?_))
    refine Aae (Aax (b:=1) rfl rfl (by omega)) rfl rfl rfl rfl ?_;refine Aaa 1 rfl (Aac ?_)
    refine⟨i+1,by omega,by (repeat' (first | exact Aan | refine Aah rfl ?_)),by omega,Aay (by omega) h1,Aay (by omega) h2,(Aam hq).trans ?_⟩
    rw [Nat.mul_one,he,←Abo hi']
   ·have:i=16:=by omega
    subst this
    rw [Abu,hres] at hq
    refine Aab (Aad ?_)
    refine Aae (AbM rfl hq (by simp [hel])) rfl rfl rfl rfl ?_
    refine Aae (Abf rfl rfl h1 rfl (by simp [hel]) (AaF (fun _=>rfl) _)) rfl rfl rfl rfl ?_
    refine Aac (AaD (AcO (sz':=16) rfl (Aam h1) (by simp [hel]) (AaL (fun _=>rfl) _)))
end Go.Eng.Ses
