/- The ciphers' sums are proved; no condition. -/
import Derived.Test.YtiggilmfehhgaaaGreatDoorC1
import Derived.Test.YtiggilmfehhgaaaGreatDoorE6
import Derived.Test.YtiggilmfehhgaaaGreatDoorCP
import Derived.KernelRfl
import Derived.Test.YtiggilmfehhgaaaGreatDoorE4
set_option linter.unusedSectionVars false
set_option linter.unusedVariables false
set_option linter.unusedSimpArgs false
set_option linter.unnecessarySimpa false
namespace Go.Eng.Ses
open Go Go.Eng
variable [Inhabited GlobT]
attribute [local irreducible] OpR TL TD TC TS Aaz
abbrev w8 (b:BitVec 8):AVal := .int .u8 (b.toNat:Int)
abbrev w32 (b:BitVec 32):AVal := .int .u32 (b.toNat:Int)
abbrev w64 (b:BitVec 64):AVal := .int .u64 (b.toNat:Int)
abbrev n64 (n:Nat):AVal := .int .i64 (n:Int)
abbrev u64 (n:Nat):AVal := .int .u64 (n:Int)
def ror (x:BitVec 32) (n:Nat):BitVec 32:=x <<< (32 - n) ||| x >>> n
theorem rot_ok (x:BitVec 32) (n:Nat) (hn:n≤32) (hs:abin .and (.int .u64 (IntKind.u64.wrap (IntKind.i64.wrap (0 - (n:Int))))) (.int .u64 31)=some (.int .u64 ((32 - n:Nat):Int))) :
 Aaz AP0 AcL [w32 x,.int .i64 (IntKind.i64.wrap (0 - (n:Int)))] (w32 (ror x n)):=by
 refine Aav (af:=AbP) rfl rfl ?_
 refine Aab (Aad (Aaa 1 rfl (Aac (Aab (Aad (Aaa 1 rfl ?_))))))
 refine Aae (o_conv rfl) rfl rfl rfl rfl ?_
 refine Aae (Aas rfl rfl hs) rfl rfl rfl rfl ?_
 refine Aaa 1 rfl (Aac (Aab (Aad (Aaa 2 rfl ?_))))
 refine Aae (Aas rfl rfl (bshl_u32 _ _)) rfl rfl rfl rfl ?_;refine Aaa 2 rfl ?_
 refine Aae (o_subu (a:=32) rfl rfl (by omega) (AdR (by omega))) rfl rfl rfl rfl ?_
 refine Aae (Aas rfl rfl (AfF _ _)) rfl rfl rfl rfl ?_;refine Aae (Aas rfl rfl (bor_u32 _ _)) rfl rfl rfl rfl ?_;refine Aaa 1 rfl ?_
 refine Aac ?_
 rw [show 32 - (32 - n)=n by omega]
 exact AaD (retd rfl ⟨_,AaJ rfl⟩)
theorem Adi (x:BitVec 32) (n:Nat) (hn:n≤32) (hs:abin .and (.int .u64 (IntKind.u64.wrap (IntKind.i64.wrap (0 - (n:Int))))) (.int .u64 31)=some (.int .u64 ((32 - n:Nat):Int))) :
 Aaz AP0 AaO [w32 x,n64 n] (w32 (ror x n)):=by
 refine Aav (af:=Ait) rfl rfl ?_
 refine Aab (Aad (Aaa 1 rfl (Aac (Aab (Aad (Aaa 2 rfl ?_))))))
 refine Aae (o_un rfl rfl) rfl rfl rfl rfl ?_
 refine Aap rfl rfl (rot_ok x n hn hs) rfl rfl rfl rfl rfl rfl ?_;refine Aaa 1 rfl (Aac ?_);exact AaD (retd rfl ⟨_,AaJ rfl⟩)
theorem right2 (x:BitVec 32):Aaz AP0 AaO [w32 x,.int .i64 2] (w32 (ror x 2)):=Adi x 2 (by decide) rfl
theorem right6 (x:BitVec 32):Aaz AP0 AaO [w32 x,.int .i64 6] (w32 (ror x 6)):=Adi x 6 (by decide) rfl
theorem right7 (x:BitVec 32):Aaz AP0 AaO [w32 x,.int .i64 7] (w32 (ror x 7)):=Adi x 7 (by decide) rfl
theorem right11 (x:BitVec 32):Aaz AP0 AaO [w32 x,.int .i64 11] (w32 (ror x 11)):=Adi x 11 (by decide) rfl
theorem right13 (x:BitVec 32):Aaz AP0 AaO [w32 x,.int .i64 13] (w32 (ror x 13)):=Adi x 13 (by decide) rfl
theorem right17 (x:BitVec 32):Aaz AP0 AaO [w32 x,.int .i64 17] (w32 (ror x 17)):=Adi x 17 (by decide) rfl
theorem right18 (x:BitVec 32):Aaz AP0 AaO [w32 x,.int .i64 18] (w32 (ror x 18)):=Adi x 18 (by decide) rfl
theorem right19 (x:BitVec 32):Aaz AP0 AaO [w32 x,.int .i64 19] (w32 (ror x 19)):=Adi x 19 (by decide) rfl
theorem right22 (x:BitVec 32):Aaz AP0 AaO [w32 x,.int .i64 22] (w32 (ror x 22)):=Adi x 22 (by decide) rfl
theorem right25 (x:BitVec 32):Aaz AP0 AaO [w32 x,.int .i64 25] (w32 (ror x 25)):=Adi x 25 (by decide) rfl
def getB (s:List UInt8):BitVec 64:=s.foldl (fun n b=>n <<< 8 ||| b.toBitVec.setWidth 64) 0
theorem get_ok (s:List UInt8) (h1:s≠[]) (h8:s.length≤8):Aaz AP0 f_word_Get [.str s] (.tuple [w64 (getB s),n64 0]):=by
 have hpos:0<s.length:=List.length_pos_iff.2 h1
 have hne:(s == [])=false:=by
  cases s with
  | nil=>exact absurd rfl h1
  | cons a l=>rfl
 refine Aav (af:=Akq) rfl rfl ?_
 refine Aab (Aad (Aaa 2 rfl (Aac (Aab ?_))));refine Aak ?_;refine Aab (Aad ?_)
 refine Aaa 3 rfl (Aac ?_)
 refine AaI (t:=false) (by rw [←hne];rfl) (fun h=>nomatch h) (fun _=>?_)
 refine Aab (Aad (Aaa 4 rfl (Aac ?_)))
 refine AaI rfl (fun h=>?_) (fun _=>Aao ?_)
 ·exfalso
  have:=of_decide_eq_true h
  omega
 refine Aab (Aad (Aaa 1 rfl (Aac (Aab (Aab (Aad ?_))))))
 refine Aaa 3 rfl (Aac ?_)
 refine Aak (AaE (σ:=Nat) (fun k=>s.length - k) (fun k=>[(0,.str s),(4,w64 (getB (s.take k))),(14,n64 s.length),(15,n64 k)]) (fun k S=>k≤s.length∧S=[]) 0 (by (repeat' (first | exact Aan | refine Aah rfl ?_))) ⟨by omega,rfl⟩ ?_)
 rintro k S ⟨hk,rfl⟩
 refine Aab (Aad (Aaa 1 rfl (Aac (Aab ?_))))
 refine AaI rfl (fun h=>Aao ?_) (fun h=>AaA ?_)
 ·have hk':k<s.length:=by have:=of_decide_eq_true h;omega
  refine Aab ?_;refine Aak ?_;refine Aab (Aad (Aaa 2 rfl (Aac (Aad ?_))))
  refine Aaa 1 rfl ?_;refine Aae (Aas rfl rfl (bshl_u64 _ 8)) rfl rfl rfl rfl ?_;refine Aaa 2 rfl ?_
  refine Aae (Adt rfl rfl (by omega)) rfl rfl rfl rfl ?_;refine Aae (Anh rfl) rfl rfl rfl rfl ?_
  refine Aae (Aas rfl rfl (bor_u64 _ _)) rfl rfl rfl rfl ?_;refine Aaa 1 rfl (Aac (Aad ?_))
  refine Aae (Aax (b:=1) rfl rfl (by omega)) rfl rfl rfl rfl ?_;refine Aaa 1 rfl (Aac ?_)
  refine⟨k+1,by omega,?_,hk',rfl⟩
  rw [List.take_succ_eq_append_getElem hk']
  simp only [getB,List.foldl_append,List.foldl_cons,List.foldl_nil]
  (repeat' (first | exact Aan | refine Aah rfl ?_))
 ·have hk':k=s.length:=by have:=of_decide_eq_false h;omega
  subst hk'
  rw [List.take_length]
  refine Aab (Aad (Aaa 3 rfl (Aac ?_)));exact AaD (retd rfl ⟨_,AaJ rfl⟩)
end Go.Eng.Ses
namespace Go.Eng.Ses
open Go Go.Eng
variable [Inhabited GlobT]
attribute [local irreducible] OpR TL TD TC TS Aaz
theorem and_low (x:BitVec 64):(x &&& 0xffffffff#64).toNat=x.toNat%4294967296:=by
 rw [BitVec.toNat_and];exact Nat.and_two_pow_sub_one_eq_mod x.toNat 32
def AhJ (x y:BitVec 64):BitVec 64:=x*y
def Aee (x y:BitVec 64):BitVec 64:=BitVec.ofNat 64 (x.toNat*y.toNat / 18446744073709551616)
def mulHighC (x y:BitVec 64):BitVec 64 :=
 let x0:=x &&& 0xffffffff#64
 let x1:=x >>> 32
 let y0:=y &&& 0xffffffff#64
 let y1:=y >>> 32
 let w0:=x0*y0
 let t:=x1*y0+w0 >>> 32
 let a:=t &&& 0xffffffff#64
 let b:=t >>> 32
 let c:=a+x0*y1
 x1*y1+b+c >>> 32
theorem mulHighC_eq (x y:BitVec 64):mulHighC x y=Aee x y:=by
 apply BitVec.eq_of_toNat_eq
 unfold mulHighC Aee
 simp only [BitVec.toNat_add,BitVec.toNat_mul,BitVec.toNat_ushiftRight,and_low,Nat.shiftRight_eq_div_pow,BitVec.toNat_ofNat,Nat.reducePow]
 have hx:=x.isLt
 have hy:=y.isLt
 generalize x.toNat=X at *
 generalize y.toNat=Y at *
 obtain⟨x1,x0,hx0,rfl⟩:∃ x1 x0,x0<4294967296∧X=4294967296*x1+x0:=⟨X / 4294967296,X%4294967296,Nat.mod_lt _ (by omega),by omega⟩
 obtain⟨y1,y0,hy0,rfl⟩:∃ y1 y0,y0<4294967296∧Y=4294967296*y1+y0:=⟨Y / 4294967296,Y%4294967296,Nat.mod_lt _ (by omega),by omega⟩
 have e1:(4294967296*x1+x0)%4294967296=x0:=by omega
 have e2:(4294967296*x1+x0) / 4294967296=x1:=by omega
 have e3:(4294967296*y1+y0)%4294967296=y0:=by omega
 have e4:(4294967296*y1+y0) / 4294967296=y1:=by omega
 rw [e1,e2,e3,e4]
 have hx1:x1<4294967296:=by omega
 have hy1:y1<4294967296:=by omega
 have b00:x0*y0≤4294967295*4294967295:=Nat.mul_le_mul (by omega) (by omega)
 have b10:x1*y0≤4294967295*4294967295:=Nat.mul_le_mul (by omega) (by omega)
 have b01:x0*y1≤4294967295*4294967295:=Nat.mul_le_mul (by omega) (by omega)
 have b11:x1*y1≤4294967295*4294967295:=Nat.mul_le_mul (by omega) (by omega)
 have hp:(4294967296*x1+x0)*(4294967296*y1+y0)=18446744073709551616*(x1*y1)+4294967296*(x1*y0+x0*y1)+x0*y0:=by
  rw [Nat.add_mul,Nat.mul_add,Nat.mul_add]
  have h1:4294967296*x1*(4294967296*y1)=18446744073709551616*(x1*y1):=by
   rw [Nat.mul_mul_mul_comm]
  have h2:4294967296*x1*y0=4294967296*(x1*y0):=Nat.mul_assoc _ _ _
  have h3:x0*(4294967296*y1)=4294967296*(x0*y1):=Nat.mul_left_comm _ _ _
  rw [h1,h2,h3];omega
 rw [hp]
 generalize x0*y0=p00 at *
 generalize x1*y0=p10 at *
 generalize x0*y1=p01 at *
 generalize x1*y1=p11 at *
 omega
theorem mul64_ok (x y:BitVec 64):Aaz AP0 Adb [w64 x,w64 y] (.tuple [w64 (Aee x y),w64 (AhJ x y)]):=by
 rw [←mulHighC_eq]
 refine Aav (af:=Adf) rfl rfl ?_
 refine Aab (Aad (Aaa 2 rfl (Aac (Aab (Aad (Aaa 1 rfl ?_))))))
 refine Aae (Aas rfl rfl (band_u64 _ (4294967295#64))) rfl rfl rfl rfl ?_;refine Aaa 1 rfl (Aac (Aab ?_))
 refine Aad (Aaa 1 rfl ?_);refine Aae (Aas rfl rfl (AbU _ 32)) rfl rfl rfl rfl ?_;refine Aaa 1 rfl (Aac ?_)
 refine Aab (Aad (Aaa 1 rfl ?_));refine Aae (Aas rfl rfl (band_u64 _ (4294967295#64))) rfl rfl rfl rfl ?_
 refine Aaa 1 rfl (Aac (Aab (Aad (Aaa 1 rfl ?_))))
 refine Aae (Aas rfl rfl (AbU _ 32)) rfl rfl rfl rfl ?_;refine Aaa 1 rfl (Aac (Aab (Aad ?_)))
 refine Aaa 2 rfl ?_;refine Aae (Aas rfl rfl (Ahv _ _)) rfl rfl rfl rfl ?_;refine Aaa 1 rfl (Aac (Aab ?_))
 refine Aad (Aaa 2 rfl ?_);refine Aae (Aas rfl rfl (Ahv _ _)) rfl rfl rfl rfl ?_;refine Aaa 1 rfl ?_
 refine Aae (Aas rfl rfl (AbU _ 32)) rfl rfl rfl rfl ?_;refine Aae (Aas rfl rfl (AjH _ _)) rfl rfl rfl rfl ?_
 refine Aaa 1 rfl (Aac (Aab (Aad (Aaa 1 rfl ?_))))
 refine Aae (Aas rfl rfl (band_u64 _ (4294967295#64))) rfl rfl rfl rfl ?_;refine Aaa 1 rfl (Aac (Aab ?_))
 refine Aad (Aaa 1 rfl ?_);refine Aae (Aas rfl rfl (AbU _ 32)) rfl rfl rfl rfl ?_;refine Aaa 1 rfl (Aac ?_)
 refine Aab (Aad (Aaa 3 rfl ?_));refine Aae (Aas rfl rfl (Ahv _ _)) rfl rfl rfl rfl ?_
 refine Aae (Aas rfl rfl (AjH _ _)) rfl rfl rfl rfl ?_;refine Aaa 1 rfl (Aac (Aab (Aad ?_)))
 refine Aaa 2 rfl ?_;refine Aae (Aas rfl rfl (Ahv _ _)) rfl rfl rfl rfl ?_;refine Aaa 1 rfl ?_
 refine Aae (Aas rfl rfl (AjH _ _)) rfl rfl rfl rfl ?_;refine Aaa 1 rfl ?_
 refine Aae (Aas rfl rfl (AbU _ 32)) rfl rfl rfl rfl ?_;refine Aae (Aas rfl rfl (AjH _ _)) rfl rfl rfl rfl ?_
 refine Aaa 1 rfl (Aac (Aab (Aad (Aaa 2 rfl ?_))))
 refine Aae (Aas rfl rfl (Ahv _ _)) rfl rfl rfl rfl ?_;refine Aaa 1 rfl (Aac ?_);exact AaD (retd rfl ⟨_,AaJ rfl⟩)
def Aem:Nat→BitVec 64
 | 0=>0
 | n+1=>1#64 <<< n
theorem bitOf_shr:∀ n,n<37→Aem (n+1) >>> 1=Aem n:=by decide
theorem bitOf_pos:∀ n,n<38→decide (((Aem n).toNat:Int)>0)=decide (0<n):=by decide
def behS (p:BitVec 64) (three:Bool) (x bit:BitVec 64):BitVec 64 :=
 let y:=x ||| bit
 let h:=Aee y y
 let l:=AhJ y y
 let q:BitVec 64 × BitVec 64 × BitVec 64:=if three then (h*y+Aee l y,AhJ l y,p <<< 32) else (h,l,p)
 if q.1.toNat<q.2.2.toNat∨q.1=q.2.2∧q.2.1=0 then y else x
theorem behS_eq (p:BitVec 64) (three:Bool) (x bit:BitVec 64):behS p three x bit =
 let y:=x ||| bit
 let h:=Aee y y
 let l:=AhJ y y
 let q:BitVec 64 × BitVec 64 × BitVec 64:=if three then (h*y+Aee l y,AhJ l y,p <<< 32) else (h,l,p)
 if q.1.toNat<q.2.2.toNat∨q.1=q.2.2∧q.2.1=0 then y else x:=rfl
def behL (p:BitVec 64) (three:Bool):Nat→BitVec 64→BitVec 64
 | 0,x=>x
 | n+1,x=>behL p three n (behS p three x (Aem (n+1)))
def behP (p:BitVec 64) (three:Bool):BitVec 32:=(behL p three 37 0).setWidth 32
attribute [local irreducible] Aee AhJ behS in
theorem behind_ok (p:BitVec 64) (three:Bool):Aaz AP0 Agy [w64 p,.bool three] (w32 (behP p three)):=by
 refine Aav (af:=AgS) rfl rfl ?_
 obtain⟨R,hR⟩:∃ R,behL p three 37 0=R:=⟨_,rfl⟩
 have hP:behP p three=R.setWidth 32:=by unfold behP;rw [hR]
 rw [hP]
 refine Aab (Aad (Aaa 1 rfl (Aac (Aab (Aad (Aaa 1 rfl ?_))))))
 refine Aac (Aab (Aab (Aad (Aaa 1 rfl (Aac ?_)))))
 refine Aak (AaE (σ:=Nat × BitVec 64) (fun s=>s.1) (fun s=>[(0,w64 p),(1,.bool three),(5,w64 s.2),(6,w64 (Aem s.1))]) (fun s S=>s.1<38∧S=[]∧behL p three s.1 s.2=R) (37,0) (by (repeat' (first | exact Aan | refine Aah rfl ?_))) ⟨by decide,rfl,hR⟩ ?_)
 rintro⟨n,x⟩ S ⟨hn,rfl,hx⟩
 dsimp only at *
 refine Aab (Aab (Aad (Aaa 2 rfl (Aac ?_))))
 refine AaI (t:=decide (0<n)) (by rw [←bitOf_pos n hn];rfl) (fun h=>Aao ?_) (fun h=>AaA ?_)
 ·obtain⟨n,rfl⟩:∃ k,n=k+1:=⟨n - 1,by have:=of_decide_eq_true h;omega⟩
  clear h
  have hs:=bitOf_shr n (by omega)
  have hx':behL p three n (behS p three x (Aem (n+1)))=R:=hx
  clear hx hR hP
  have key:∀ (h l bd:BitVec 64),(if three then (Aee (x ||| Aem (n+1)) (x ||| Aem (n+1))*(x ||| Aem (n+1))+Aee (AhJ (x ||| Aem (n+1)) (x ||| Aem (n+1))) (x ||| Aem (n+1)),AhJ (AhJ (x ||| Aem (n+1)) (x ||| Aem (n+1))) (x ||| Aem (n+1)),p <<< 32) else (Aee (x ||| Aem (n+1)) (x ||| Aem (n+1)),AhJ (x ||| Aem (n+1)) (x ||| Aem (n+1)),p):BitVec 64 × BitVec 64 × BitVec 64)=(h,l,bd) →
   behS p three x (Aem (n+1))=if h.toNat<bd.toNat∨h=bd∧l=0 then x ||| Aem (n+1) else x:=by
   intro h l bd hh
   rw [behS_eq]
   simp only [hh]
  have hz:∀ l:BitVec 64,((l.toNat:Int)=0)↔l=0:=fun l=>⟨fun h=>BitVec.eq_of_toNat_eq (by simpa using h),fun h=>by rw [h];rfl⟩
  have he:∀ a b:BitVec 64,((a.toNat:Int)=b.toNat)↔a=b:=fun a b=>⟨fun h=>BitVec.eq_of_toNat_eq (by omega),fun h=>by rw [h]⟩
  cases three
  ·refine Aab ?_;refine Aak ?_;refine Aab (Aad (Aaa 2 rfl ?_))
   refine Aae (Aas rfl rfl (bor_u64 _ _)) rfl rfl rfl rfl ?_;refine Aaa 1 rfl (Aac (Aab (Aad ?_)))
   refine Aaa 2 rfl ?_;refine Aap rfl rfl (mul64_ok _ _) rfl rfl rfl rfl rfl rfl ?_;refine Aaa 5 rfl (Aac (Aab ?_))
   refine Aad (Aaa 2 rfl (Aac (Aab (Aab (Aad (Aaa 1 rfl ?_))))))
   refine Aac ?_;refine AaI (t:=false) rfl (fun h=>nomatch h) (fun _=>?_);refine Aao (Aab (Aad ?_))
   refine Aaa 4 rfl ?_
   (focus refine Aet 45 rfl decide_eq_true_iff (fun c1=>?_) (fun c1=>?_);rotate_left 1;(focus refine Aaa 4 rfl ?_;(focus refine Aet 49 rfl beq_iff_eq (fun c2=>?_) (fun c2=>?_);rotate_left 1;(focus refine Aaa 4 rfl (Aac ?_);refine AaI (t:=false) rfl (fun h=>nomatch h) (fun _=>?_);refine Aao (Aad (Aaa 1 rfl ?_));refine Aae (Aas rfl rfl (AbU _ 1)) rfl rfl rfl rfl ?_;refine Aaa 1 rfl (Aac ?_));rotate_left 1;(focus refine Aaa 4 rfl (Aac ?_);(focus refine Aar rfl beq_iff_eq (fun c3=>?_) (fun c3=>?_);rotate_left 1;(focus refine Aao (Aad (Aaa 1 rfl ?_));refine Aae (Aas rfl rfl (AbU _ 1)) rfl rfl rfl rfl ?_;refine Aaa 1 rfl (Aac ?_));rotate_left 1;(focus refine Aad (Aaa 2 rfl (Aac (Aad (Aaa 1 rfl ?_))));refine Aae (Aas rfl rfl (AbU _ 1)) rfl rfl rfl rfl ?_;refine Aaa 1 rfl (Aac ?_))))));rotate_left 3;(focus refine Aaa 8 rfl (Aac ?_);refine AaI (t:=true) rfl (fun _=>?_) (fun h=>nomatch h);refine Aad (Aaa 2 rfl (Aac (Aad (Aaa 1 rfl ?_))));refine Aae (Aas rfl rfl (AbU _ 1)) rfl rfl rfl rfl ?_;refine Aaa 1 rfl (Aac ?_)))
   all_goals
    refine⟨(n,behS p _ x (Aem (n+1))),Nat.lt_succ_self n,?_,Nat.lt_of_succ_lt hn,rfl,hx'⟩
    dsimp only
    have e:=key _ _ _ rfl
   ·rw [if_pos (.inl (by omega))] at e;rw [e,hs];(repeat' (first | exact Aan | refine Aah rfl ?_))
   ·rw [if_pos (.inr ⟨(he _ _).1 (by assumption),(hz _).1 (by assumption)⟩)] at e;rw [e,hs];(repeat' (first | exact Aan | refine Aah rfl ?_))
   ·rw [if_neg (fun h=>h.elim (fun h=>by omega) (fun h=>absurd ((hz _).2 h.2) (by assumption)))] at e;rw [e,hs];(repeat' (first | exact Aan | refine Aah rfl ?_))
   ·rw [if_neg (fun h=>h.elim (fun h=>by omega) (fun h=>absurd ((he _ _).2 h.1) (by assumption)))] at e;rw [e,hs];(repeat' (first | exact Aan | refine Aah rfl ?_))
  ·refine Aab ?_;refine Aak ?_;refine Aab (Aad (Aaa 2 rfl ?_))
   refine Aae (Aas rfl rfl (bor_u64 _ _)) rfl rfl rfl rfl ?_;refine Aaa 1 rfl (Aac (Aab (Aad ?_)))
   refine Aaa 2 rfl ?_;refine Aap rfl rfl (mul64_ok _ _) rfl rfl rfl rfl rfl rfl ?_;refine Aaa 5 rfl (Aac (Aab ?_))
   refine Aad (Aaa 2 rfl (Aac (Aab (Aab (Aad (Aaa 1 rfl ?_))))))
   refine Aac ?_;refine AaI (t:=true) rfl (fun _=>?_) (fun h=>nomatch h);refine Aab (Aad (Aaa 2 rfl ?_))
   refine Aap rfl rfl (mul64_ok _ _) rfl rfl rfl rfl rfl rfl ?_;refine Aaa 5 rfl (Aac (Aad (Aaa 2 rfl ?_)))
   refine Aae (Aas rfl rfl (Ahv _ _)) rfl rfl rfl rfl ?_;refine Aaa 1 rfl ?_;refine Aae (Aas rfl rfl (AjH _ _)) rfl rfl rfl rfl ?_
   refine Aaa 2 rfl ?_;refine Aae (Aas rfl rfl (bshl_u64 _ 32)) rfl rfl rfl rfl ?_;refine Aaa 3 rfl (Aac (Aab ?_))
   refine Aad (Aaa 4 rfl ?_)
   (focus refine Aet 45 rfl decide_eq_true_iff (fun c1=>?_) (fun c1=>?_);rotate_left 1;(focus refine Aaa 4 rfl ?_;(focus refine Aet 49 rfl beq_iff_eq (fun c2=>?_) (fun c2=>?_);rotate_left 1;(focus refine Aaa 4 rfl (Aac ?_);refine AaI (t:=false) rfl (fun h=>nomatch h) (fun _=>?_);refine Aao (Aad (Aaa 1 rfl ?_));refine Aae (Aas rfl rfl (AbU _ 1)) rfl rfl rfl rfl ?_;refine Aaa 1 rfl (Aac ?_));rotate_left 1;(focus refine Aaa 4 rfl (Aac ?_);(focus refine Aar rfl beq_iff_eq (fun c3=>?_) (fun c3=>?_);rotate_left 1;(focus refine Aao (Aad (Aaa 1 rfl ?_));refine Aae (Aas rfl rfl (AbU _ 1)) rfl rfl rfl rfl ?_;refine Aaa 1 rfl (Aac ?_));rotate_left 1;(focus refine Aad (Aaa 2 rfl (Aac (Aad (Aaa 1 rfl ?_))));refine Aae (Aas rfl rfl (AbU _ 1)) rfl rfl rfl rfl ?_;refine Aaa 1 rfl (Aac ?_))))));rotate_left 3;(focus refine Aaa 8 rfl (Aac ?_);refine AaI (t:=true) rfl (fun _=>?_) (fun h=>nomatch h);refine Aad (Aaa 2 rfl (Aac (Aad (Aaa 1 rfl ?_))));refine Aae (Aas rfl rfl (AbU _ 1)) rfl rfl rfl rfl ?_;refine Aaa 1 rfl (Aac ?_)))
   all_goals
    refine⟨(n,behS p _ x (Aem (n+1))),Nat.lt_succ_self n,?_,Nat.lt_of_succ_lt hn,rfl,hx'⟩
    dsimp only
    have e:=key _ _ _ rfl
   ·rw [if_pos (.inl (by omega))] at e;rw [e,hs];(repeat' (first | exact Aan | refine Aah rfl ?_))
   ·rw [if_pos (.inr ⟨(he _ _).1 (by assumption),(hz _).1 (by assumption)⟩)] at e;rw [e,hs];(repeat' (first | exact Aan | refine Aah rfl ?_))
   ·rw [if_neg (fun h=>h.elim (fun h=>by omega) (fun h=>absurd ((hz _).2 h.2) (by assumption)))] at e;rw [e,hs];(repeat' (first | exact Aan | refine Aah rfl ?_))
   ·rw [if_neg (fun h=>h.elim (fun h=>by omega) (fun h=>absurd ((he _ _).2 h.1) (by assumption)))] at e;rw [e,hs];(repeat' (first | exact Aan | refine Aah rfl ?_))
 ·have:n=0:=by have:=of_decide_eq_false h;omega
  subst this
  simp only [behL] at hx
  subst hx
  refine Aab (Aad (Aaa 1 rfl ?_));refine Aae (AhW rfl) rfl rfl rfl rfl ?_;refine Aaa 1 rfl (Aac ?_)
  exact AaD (retd rfl ⟨_,AaJ rfl⟩)
end Go.Eng.Ses
namespace Go.Eng.Ses
open Go Go.Eng
variable [Inhabited GlobT]
attribute [local irreducible] OpR TL TD TC TS Aaz
def putB (n:BitVec 64) (k:Nat):List UInt8:=(List.range k).map fun i=>UInt8.ofBitVec ((n >>> (8*(k - 1 - i))).setWidth 8)
@[simp] theorem putB_len (n:BitVec 64) (k:Nat):(putB n k).length=k:=by simp [putB]
def Ame (n:BitVec 64) (k i:Nat):List UInt8:=List.replicate (k - i) 0++(putB n k).drop (k - i)
@[simp] theorem tailB_len {n:BitVec 64} {k i:Nat} (h:i≤k):(Ame n k i).length=k:=by simp [Ame];try omega
theorem tailB_zero (n:BitVec 64) (k:Nat):Ame n k 0=List.replicate k 0:=by simp [Ame]
theorem tailB_full (n:BitVec 64) (k:Nat):Ame n k k=putB n k:=by simp [Ame]
theorem tailB_set (n:BitVec 64) (k i:Nat) (h:i<k):(Ame n k i).set (k - i - 1) (UInt8.ofBitVec ((n >>> (8*i)).setWidth 8))=Ame n k (i+1):=by
 unfold Ame
 obtain⟨j,hj⟩:∃ j,k - i=j+1:=⟨k - i - 1,by omega⟩
 rw [hj,show k - (i+1)=j by omega,show j+1 - 1=j by omega]
 rw [List.replicate_succ',List.append_assoc,List.set_append_right _ _ (by simp)]
 have hlen:j<(putB n k).length:=by rw [putB_len];omega
 rw [List.drop_eq_getElem_cons hlen]
 simp only [List.length_replicate,Nat.sub_self,List.cons_append,List.nil_append,List.set_cons_zero]
 congr 2
 simp only [putB,List.getElem_map,List.getElem_range]
 rw [show k - 1 - j=i by omega]
theorem AkV (n:BitVec 64) (k:Nat) (hk:k≤8):Aaz AP0 AcK [w64 n,n64 k] (.str (putB n k)):=by
 refine Aav (af:=Akp) rfl rfl ?_
 refine Aab (Aad (Aaa 1 rfl (Aac (Aab (Aad (Aaa 1 rfl ?_))))))
 refine Aae (o_maxn (b:=0) rfl rfl) rfl rfl rfl rfl ?_;refine Aae (o_minn (b:=8) rfl rfl) rfl rfl rfl rfl ?_
 refine Abh (o_make rfl rfl (by omega) (by omega)) rfl rfl rfl rfl ?_;refine Aaa 1 rfl (Aac (Aab (Aab ?_)))
 refine Aad (Aaa 2 rfl ?_);refine Aae (o_sub rfl rfl rfl (by omega) (by omega)) rfl rfl rfl rfl ?_;refine Aaa 1 rfl ?_
 refine Aac ?_
 rw [Nat.max_eq_left (Nat.zero_le k),Nat.min_eq_left hk]
 refine Aak (AaE (σ:=Nat) (fun r=>r) (fun r=>[(0,w64 (n >>> (8*(k - r)))),(5,.view 0 0 k true),(6,.int .i64 ((r:Int) - 1))]) (fun r S=>r≤k∧S=[some ⟨1,(Ame n k (k - r)).map fun b=>[.int .u8 (b.toNat:Int)]⟩]) k ?_ ⟨Nat.le_refl _,?_⟩ ?_)
 ·rw [Nat.sub_self,Nat.mul_zero,BitVec.ushiftRight_zero];(repeat' (first | exact Aan | refine Aah rfl ?_))
 ·rw [Nat.sub_self,tailB_zero,List.map_replicate];rfl
 rintro r S ⟨hr,rfl⟩
 refine Aab (Aab (Aad (Aaa 2 rfl (Aac ?_))))
 refine Aar rfl decide_eq_true_iff (fun h=>Aao ?_) (fun h=>AaA ?_)
 ·obtain⟨r,rfl⟩:∃ j,r=j+1:=⟨r - 1,by omega⟩
  have e:((r+1:Nat):Int) - 1=(r:Int):=by omega
  rw [e]
  have hl:r<(Ame n k (k - (r+1))).length:=by rw [tailB_len (by omega)];omega
  refine Aab ?_;refine Aak ?_;refine Aab (Aad (Aaa 3 rfl ?_));refine Aae (Ahl rfl) rfl rfl rfl rfl ?_
  refine Aae (AaP rfl rfl (by omega) rfl rfl) rfl rfl rfl rfl ?_;refine Aae (Afs rfl rfl rfl (by omega)) rfl rfl rfl rfl ?_
  refine Aac (Aad (Aaa 1 rfl ?_));refine Aae (Aas rfl rfl (AbU _ 8)) rfl rfl rfl rfl ?_;refine Aaa 1 rfl ?_
  refine Aac (Aad (Aaa 1 rfl ?_));refine Aae (o_sub rfl rfl rfl (by omega) (by omega)) rfl rfl rfl rfl ?_
  refine Aaa 1 rfl (Aac ?_)
  refine⟨r,by omega,?_,by omega,?_⟩
  ·rw [←BitVec.shiftRight_add,show 8*(k - (r+1))+8=8*(k - r) by omega];(repeat' (first | exact Aan | refine Aah rfl ?_))
  ·have:=tailB_set n k (k - (r+1)) (by omega)
   rw [show k - (k - (r+1)) - 1=r by omega,show k - (r+1)+1=k - r by omega] at this
   rw [←this];rfl
 ·have:r=0:=by omega
  subst this
  rw [Nat.sub_zero,tailB_full]
  refine Aab (Aad (Aaa 1 rfl ?_));refine Aae (AhV rfl rfl (by simp)) rfl rfl rfl rfl ?_;refine Aaa 1 rfl ?_
  refine Aac ?_;exact AaD (retd rfl ⟨_,AaJ rfl⟩)
theorem put_okn (n k:Nat) (hn:n<18446744073709551616) (hk:k≤8):Aaz AP0 AcK [u64 n,n64 k] (.str (putB (BitVec.ofNat 64 n) k)):=by
 have:=AkV (BitVec.ofNat 64 n) k hk
 rwa [w64,BitVec.toNat_ofNat,Nat.mod_eq_of_lt hn] at this
def keyW (i:Nat):BitVec 32:=behP (primeB i) true
def AfI (i:Nat):BitVec 32:=behP (primeB i) false
theorem keys_ok:Aaz AP0 f_sha_Keys [] (.agg ((List.range 64).map fun i=>w32 (keyW i))):=by
 refine Aav (af:=Akt) rfl rfl ?_
 refine Aab (Aad (Aaa 1 rfl (Aac (Aab (Aad (Aaa 1 rfl ?_))))))
 refine Aac (Aab (Aab (Aad ?_)));refine Aap rfl rfl (primes64) rfl rfl rfl rfl rfl rfl ?_
 refine Aaa 2 rfl (Aac ?_)
 refine Aak (AaE (σ:=Nat) (fun i=>64 - i) (fun i=>[(0,.ptr 0 0 0),(1,.ptr 1 0 0),(4,.imm ((List.range 64).map fun i=>[.int .u64 ((primeB i).toNat:Int)])),(5,n64 64),(6,n64 i)])
  (fun i S=>i≤64∧S=[some ⟨64,[zs .u32 64]⟩,some ⟨64,[(fillA 0 keyW 64 i).map w32]⟩]) 0 (by (repeat' (first | exact Aan | refine Aah rfl ?_))) ⟨by omega,rfl⟩ ?_)
 rintro i S ⟨hi,rfl⟩
 refine Aab (Aad (Aaa 1 rfl (Aac (Aab ?_))))
 refine Aar rfl decide_eq_true_iff (fun h=>Aao ?_) (fun h=>AaA ?_)
 ·have hi':i<64:=by omega
  refine Aab ?_;refine Aak ?_;refine Aab (Aad (Aaa 1 rfl ?_))
  refine Aae (Ack rfl rfl (AbI (d:=0) (by assumption)) rfl) rfl rfl rfl rfl ?_;refine Aaa 3 rfl (Aac (Aad ?_))
  refine Aaa 2 rfl ?_
  rw [rangeD hi']
  refine Aap rfl rfl (behind_ok _ _) rfl rfl rfl rfl rfl rfl ?_;refine Aae (Abx rfl rfl (by omega)) rfl rfl rfl rfl ?_
  refine Aae (Ajh rfl rfl rfl rfl rfl (by simp;omega)) rfl rfl rfl rfl ?_;refine Aac (Aad ?_)
  refine Aae (Aax (b:=1) rfl rfl (by omega)) rfl rfl rfl rfl ?_;refine Aaa 1 rfl (Aac ?_)
  exact⟨i+1,by omega,by (repeat' (first | exact Aan | refine Aah rfl ?_)),by omega,by rw [←Abo hi'];rfl⟩
 ·have:i=64:=by omega
  subst this
  rw [Abu,List.map_map]
  refine Aab (Aad (Aaa 2 rfl (Aac ?_)));exact AaD (retd rfl ⟨_,AaJ rfl⟩)
theorem start_ok:Aaz AP0 Anv [] (.agg ((List.range 8).map fun i=>w32 (AfI i))):=by
 refine Aav (af:=Aiv) rfl rfl ?_
 refine Aab (Aad (Aaa 1 rfl (Aac (Aab (Aad (Aaa 1 rfl ?_))))))
 refine Aac (Aab (Aab (Aad ?_)));refine Aap rfl rfl (primes8) rfl rfl rfl rfl rfl rfl ?_
 refine Aaa 2 rfl (Aac ?_)
 refine Aak (AaE (σ:=Nat) (fun i=>8 - i) (fun i=>[(0,.ptr 0 0 0),(1,.ptr 1 0 0),(4,.imm ((List.range 8).map fun i=>[.int .u64 ((primeB i).toNat:Int)])),(5,n64 8),(6,n64 i)])
  (fun i S=>i≤8∧S=[some ⟨8,[zs .u32 8]⟩,some ⟨8,[(fillA 0 AfI 8 i).map w32]⟩]) 0 (by (repeat' (first | exact Aan | refine Aah rfl ?_))) ⟨by omega,rfl⟩ ?_)
 rintro i S ⟨hi,rfl⟩
 refine Aab (Aad (Aaa 1 rfl (Aac (Aab ?_))))
 refine Aar rfl decide_eq_true_iff (fun h=>Aao ?_) (fun h=>AaA ?_)
 ·have hi':i<8:=by omega
  refine Aab ?_;refine Aak ?_;refine Aab (Aad (Aaa 1 rfl ?_))
  refine Aae (Ack rfl rfl (AbI (d:=0) (by assumption)) rfl) rfl rfl rfl rfl ?_;refine Aaa 3 rfl (Aac (Aad ?_))
  refine Aaa 2 rfl ?_
  rw [rangeD hi']
  refine Aap rfl rfl (behind_ok _ _) rfl rfl rfl rfl rfl rfl ?_;refine Aae (Abx rfl rfl (by omega)) rfl rfl rfl rfl ?_
  refine Aae (Ajh rfl rfl rfl rfl rfl (by simp;omega)) rfl rfl rfl rfl ?_;refine Aac (Aad ?_)
  refine Aae (Aax (b:=1) rfl rfl (by omega)) rfl rfl rfl rfl ?_;refine Aaa 1 rfl (Aac ?_)
  exact⟨i+1,by omega,by (repeat' (first | exact Aan | refine Aah rfl ?_)),by omega,by rw [←Abo hi'];rfl⟩
 ·have:i=8:=by omega
  subst this
  rw [Abu,List.map_map]
  refine Aab (Aad (Aaa 2 rfl (Aac ?_)));exact AaD (retd rfl ⟨_,AaJ rfl⟩)
end Go.Eng.Ses
namespace Go.Eng.Ses
open Go Go.Eng
variable [Inhabited GlobT]
attribute [local irreducible] OpR TL TD TC TS Aaz
structure W8 where
 (a b c d e f g h:BitVec 32)
abbrev W8.l (v:W8):List (BitVec 32):=[v.a,v.b,v.c,v.d,v.e,v.f,v.g,v.h]
abbrev W8.v (v:W8):AVal := .agg (v.l.map w32)
def rnd (v:W8) (k w:BitVec 32):W8 :=
 let t:=v.h+(ror v.e 6 ^^^ ror v.e 11 ^^^ ror v.e 25)+(v.g ^^^ v.e &&& (v.f ^^^ v.g))+k+w
 let u:=(ror v.a 2 ^^^ ror v.a 13 ^^^ ror v.a 22)+(v.a &&& v.b ||| v.c &&& (v.a ||| v.b))
 ⟨t+u,v.a,v.b,v.c,v.d+t,v.e,v.f,v.g⟩
def vr (ks ws:Nat→BitVec 32) (v:W8):Nat→W8
 | 0=>v
 | i+1=>rnd (vr ks ws v i) (ks i) (ws i)
def addW (v w:W8):W8:=⟨v.a+w.a,v.b+w.b,v.c+w.c,v.d+w.d,v.e+w.e,v.f+w.f,v.g+w.g,v.h+w.h⟩
def sg0 (x:BitVec 32):BitVec 32:=ror x 7 ^^^ ror x 18 ^^^ x >>> 3
def sg1 (y:BitVec 32):BitVec 32:=ror y 17 ^^^ ror y 19 ^^^ y >>> 10
def wNext (mw:Nat→BitVec 32) (l:List (BitVec 32)) (i:Nat):BitVec 32 :=
 if i<16 then mw i else l.getD (i - 16) 0+sg0 (l.getD (i - 15) 0)+l.getD (i - 7) 0+sg1 (l.getD (i - 2) 0)
def schedL (mw:Nat→BitVec 32):Nat→List (BitVec 32)
 | 0=>[]
 | i+1=>schedL mw i++[wNext mw (schedL mw i) i]
def wf (mw:Nat→BitVec 32) (i:Nat):BitVec 32:=wNext mw (schedL mw i) i
theorem schedL_eq (mw:Nat→BitVec 32):∀ n,schedL mw n=(List.range n).map (wf mw)
 | 0=>rfl
 | n+1=>by rw [List.range_succ,List.map_append,←schedL_eq mw n];rfl
theorem wf_lt {mw:Nat→BitVec 32} {i:Nat} (h:i<16):wf mw i=mw i:=by unfold wf wNext;rw [if_pos h]
theorem wf_ge {mw:Nat→BitVec 32} {i:Nat} (h:¬ i<16):wf mw i=wf mw (i - 16)+sg0 (wf mw (i - 15))+wf mw (i - 7)+sg1 (wf mw (i - 2)):=by
 rw [wf,wNext,if_neg h,schedL_eq,Abj (by omega),Abj (by omega),Abj (by omega),Abj (by omega)]
def word4 (s:List UInt8) (i:Nat):BitVec 32:=(getB ((s.take (4*i+4)).drop (4*i))).setWidth 32
def Alp (v:W8) (ks:Nat→BitVec 32) (s:List UInt8):W8:=addW v (vr ks (wf (word4 s)) v 64)
theorem sub4 {s:List UInt8} {i:Nat} (hs:s.length=64) (hi:i<16):((s.take (4*i+4)).drop (4*i)).length=4:=by simp;omega
theorem sub4_ne {s:List UInt8} {i:Nat} (hs:s.length=64) (hi:i<16):(s.take (4*i+4)).drop (4*i)≠[]:=fun h=>by
 have:=sub4 hs hi
 rw [h] at this;cases this
set_option maxHeartbeats 4000000 in
theorem step_ok (v:W8) (ks:Nat→BitVec 32) (s:List UInt8) (hs:s.length=64):Aaz AP0 f_sha_step [v.v,.rptr (((List.range 64).map ks).map w32),.str s] (Alp v ks s).v:=by
 obtain⟨W,hW⟩:∃ W,wf (word4 s)=W:=⟨_,rfl⟩
 obtain⟨V,hV⟩:∃ V,vr ks W v=V:=⟨_,rfl⟩
 have hst:Alp v ks s=addW v (V 64):=by unfold Alp;rw [hW,hV]
 have hV0:V 0=v:=by rw [←hV];rfl
 have hVs:∀ i,V (i+1)=rnd (V i) (ks i) (W i):=fun i=>by rw [←hV];rfl
 have hWl:∀ i,i<16→W i=(getB ((s.take (4*i+4)).drop (4*i))).setWidth 32:=fun i h=>by rw [←hW,wf_lt h];rfl
 have hWg:∀ i,¬ i<16→W i=W (i - 16)+sg0 (W (i - 15))+W (i - 7)+sg1 (W (i - 2)):=fun i h=>by rw [←hW,wf_ge h]
 rw [hst]
 clear hst hV hW
 obtain⟨KL,hKL⟩:∃ KL,(List.range 64).map ks=KL:=⟨_,rfl⟩
 have hKl:KL.length=64:=by rw [←hKL];simp
 have hKg:∀ i,i<64→KL.getD i 0=ks i:=fun i h=>by rw [←hKL,Abj h]
 rw [hKL]
 clear hKL
 refine Aav (af:=Akr) rfl rfl ?_
 refine Aab (Aad (Aaa 2 rfl (Aac (Aab (Aad (Aaa 1 rfl ?_))))))
 refine Aac (Aab ?_);refine AaH rfl ?_;refine Aal 24 rfl (AaQ ?_);refine⟨rfl,?_⟩;refine Aab ?_
 refine Aab (Aad (Aaa 1 rfl (Aac ?_)))
 refine Aak (AaE (σ:=Nat) (fun i=>64 - i) (fun i=>[(1,.rptr (KL.map w32)),(2,.str s),(3,.ptr 0 0 0),(6,.ptr 1 0 0),(7,.ptr 2 0 0),(8,w32 (V i).a),(9,w32 (V i).b),(10,w32 (V i).c),(11,w32 (V i).d),(12,w32 (V i).e),(13,w32 (V i).f),(14,w32 (V i).g),(15,w32 (V i).h),(39,n64 i)])
  (fun i S=>i≤64∧S=[some ⟨8,[v.l.map w32]⟩,some ⟨8,[zs .u32 8]⟩,some ⟨64,[(fillA 0 W 64 i).map w32]⟩]) 0 (by rw [hV0];(repeat' (first | exact Aan | refine Aah rfl ?_))) ⟨by omega,rfl⟩ ?_)
 rintro i S ⟨hi,rfl⟩
 refine Aab (Aad (Aaa 1 rfl (Aac (Aab ?_))))
 refine Aar rfl decide_eq_true_iff (fun h=>Aao ?_) (fun h=>AaA ?_)
 ·have hi':i<64:=by omega
  clear h
  refine Aab ?_;refine Aak ?_;refine Aab (Aad (Aaa 2 rfl (Aac (Aab (Aab ?_)))))
  refine Aad (Aaa 2 rfl (Aac ?_))
  refine AiP [(1,.rptr (KL.map w32)),(2,.str s),(3,.ptr 0 0 0),(6,.ptr 1 0 0),(7,.ptr 2 0 0),(8,w32 (V i).a),(9,w32 (V i).b),(10,w32 (V i).c),(11,w32 (V i).d),(12,w32 (V i).e),(13,w32 (V i).f),(14,w32 (V i).g),(15,w32 (V i).h),(16,n64 i),(39,n64 i)]
   [some ⟨8,[v.l.map w32]⟩,some ⟨8,[zs .u32 8]⟩,some ⟨64,[(fillA 0 W 64 (i+1)).map w32]⟩] ?_ ?_
  ·refine Aar rfl decide_eq_true_iff (fun h=>?_) (fun h=>?_)
   ·have h16:i<16:=by omega
    refine Aab (Aad (Aaa 2 rfl ?_));refine Aae (Aey (a:=4) rfl rfl (by omega)) rfl rfl rfl rfl ?_
    refine Aaa 1 rfl ?_;refine Aae (Aey (a:=4) rfl rfl (by omega)) rfl rfl rfl rfl ?_
    refine Aae (Aax (b:=4) rfl rfl (by omega)) rfl rfl rfl rfl ?_
    refine Aae (Ahk rfl (Aby rfl) (Aby rfl) (by omega) (by omega)) rfl rfl rfl rfl ?_
    refine Aap rfl rfl (get_ok _ (sub4_ne hs h16) (by rw [sub4 hs h16];decide)) rfl rfl rfl rfl rfl rfl ?_;refine Aaa 5 rfl (Aac ?_)
    refine Aad (Aaa 2 rfl ?_);refine Aae (AhW rfl) rfl rfl rfl rfl ?_
    refine Aae (Abx rfl rfl (by omega)) rfl rfl rfl rfl ?_;refine Aae (Ajh rfl rfl rfl rfl rfl (by simp;omega)) rfl rfl rfl rfl ?_
    refine Aac ?_
    refine⟨by (repeat' (first | exact Aan | refine Aah rfl ?_)),?_⟩
    rw [←Abo hi',hWl i h16];rfl
   ·have h16:¬ i<16:=by omega
    refine Aab ?_;refine AaH rfl ?_;refine Aal 1 rfl ?_;refine Aai rfl rfl (AbQ (b:=15) rfl rfl (by omega) (by omega)) ?_
    refine Aai rfl rfl (Abx rfl rfl (by omega)) ?_;refine Aai rfl rfl (Abr 0 rfl rfl (by simp;omega)) ?_;refine Aal 1 rfl ?_
    refine Aai rfl rfl (AbQ (b:=2) rfl rfl (by omega) (by omega)) ?_;refine Aai rfl rfl (Abx rfl rfl (by omega)) ?_
    refine Aai rfl rfl (Abr 0 rfl rfl (by simp;omega)) ?_;refine Aal 2 rfl (AaQ ?_);refine⟨rfl,?_⟩;refine AaH rfl ?_
    refine Aal 2 rfl ?_;refine Aai rfl rfl (AbQ (b:=16) rfl rfl (by omega) (by omega)) ?_;refine Aai rfl rfl (Abx rfl rfl (by omega)) ?_
    refine Aai rfl rfl (Abr 0 rfl rfl (by simp;omega)) ?_;refine Aal 1 rfl ?_;refine AaS rfl rfl (right7 _) rfl rfl rfl rfl rfl ?_
    refine Aal 1 rfl ?_;refine AaS rfl rfl (right18 _) rfl rfl rfl rfl rfl ?_;refine Aai rfl rfl (Aas rfl rfl (Abl _ _)) ?_
    refine Aal 1 rfl ?_;refine Aai rfl rfl (Aas rfl rfl (AfF _ 3)) ?_;refine Aai rfl rfl (Aas rfl rfl (Abl _ _)) ?_
    refine Aai rfl rfl (Aas rfl rfl (AaV _ _)) ?_;refine Aal 1 rfl ?_;refine Aai rfl rfl (AbQ (b:=7) rfl rfl (by omega) (by omega)) ?_
    refine Aai rfl rfl (Abx rfl rfl (by omega)) ?_;refine Aai rfl rfl (Abr 0 rfl rfl (by simp;omega)) ?_
    refine Aai rfl rfl (Aas rfl rfl (AaV _ _)) ?_;refine Aal 1 rfl ?_;refine AaS rfl rfl (right17 _) rfl rfl rfl rfl rfl ?_
    refine Aal 1 rfl ?_;refine AaS rfl rfl (right19 _) rfl rfl rfl rfl rfl ?_;refine Aai rfl rfl (Aas rfl rfl (Abl _ _)) ?_
    refine Aal 1 rfl ?_;refine Aai rfl rfl (Aas rfl rfl (AfF _ 10)) ?_;refine Aai rfl rfl (Aas rfl rfl (Abl _ _)) ?_
    refine Aai rfl rfl (Aas rfl rfl (AaV _ _)) ?_;refine Aai rfl rfl (Abx rfl rfl (by omega)) ?_
    refine Aai rfl rfl (Ajh rfl rfl rfl rfl rfl (by simp;omega)) ?_;refine AaQ ?_;refine⟨rfl,?_⟩
    rw [AbX (by omega),AbX (by omega),AbX (by omega),AbX (by omega)]
    refine⟨by (repeat' (first | exact Aan | refine Aah rfl ?_)),?_⟩
    rw [←Abo hi',hWg i h16];rfl
  ·refine Aab ?_;refine AaH rfl ?_;refine Aal 2 rfl ?_;refine AaS rfl rfl (right6 _) rfl rfl rfl rfl rfl ?_;refine Aal 1 rfl ?_
   refine AaS rfl rfl (right11 _) rfl rfl rfl rfl rfl ?_;refine Aai rfl rfl (Aas rfl rfl (Abl _ _)) ?_;refine Aal 1 rfl ?_
   refine AaS rfl rfl (right25 _) rfl rfl rfl rfl rfl ?_;refine Aai rfl rfl (Aas rfl rfl (Abl _ _)) ?_
   refine Aai rfl rfl (Aas rfl rfl (AaV _ _)) ?_;refine Aal 4 rfl ?_;refine Aai rfl rfl (Aas rfl rfl (Abl _ _)) ?_
   refine Aai rfl rfl (Aas rfl rfl (AeE _ _)) ?_;refine Aai rfl rfl (Aas rfl rfl (Abl _ _)) ?_
   refine Aai rfl rfl (Aas rfl rfl (AaV _ _)) ?_;refine Aal 3 rfl ?_;refine Aai rfl rfl (o_iaR1 rfl rfl (by omega)) ?_
   refine Aai rfl rfl (AlL 0 rfl (by omega)) ?_;refine Aai rfl rfl (Aas rfl rfl (AaV _ _)) ?_;refine Aal 1 rfl ?_
   refine Aai rfl rfl (Abx rfl rfl (by omega)) ?_;refine Aai rfl rfl (Abr 0 rfl rfl (by simp;omega)) ?_
   refine Aai rfl rfl (Aas rfl rfl (AaV _ _)) ?_;refine Aal 1 rfl (AaQ ?_);refine⟨rfl,?_⟩;refine Aab (Aad ?_)
   refine Aaa 1 rfl ?_;refine Aap rfl rfl (right2 _) rfl rfl rfl rfl rfl rfl ?_;refine Aaa 1 rfl ?_
   refine Aap rfl rfl (right13 _) rfl rfl rfl rfl rfl rfl ?_;refine Aae (Aas rfl rfl (Abl _ _)) rfl rfl rfl rfl ?_;refine Aaa 1 rfl ?_
   refine Aap rfl rfl (right22 _) rfl rfl rfl rfl rfl rfl ?_;refine Aae (Aas rfl rfl (Abl _ _)) rfl rfl rfl rfl ?_;refine Aaa 2 rfl ?_
   refine Aae (Aas rfl rfl (AeE _ _)) rfl rfl rfl rfl ?_;refine Aaa 3 rfl ?_;refine Aae (Aas rfl rfl (bor_u32 _ _)) rfl rfl rfl rfl ?_
   refine Aae (Aas rfl rfl (AeE _ _)) rfl rfl rfl rfl ?_;refine Aae (Aas rfl rfl (bor_u32 _ _)) rfl rfl rfl rfl ?_
   refine Aae (Aas rfl rfl (AaV _ _)) rfl rfl rfl rfl ?_;refine Aaa 1 rfl (Aac (Aad (Aaa 5 rfl ?_)))
   refine Aae (Aas rfl rfl (AaV _ _)) rfl rfl rfl rfl ?_;refine Aaa 5 rfl ?_;refine Aae (Aas rfl rfl (AaV _ _)) rfl rfl rfl rfl ?_
   refine Aaa 8 rfl (Aac (Aad ?_));refine Aae (Aax (b:=1) rfl rfl (by omega)) rfl rfl rfl rfl ?_
   refine Aaa 1 rfl (Aac ?_)
   rw [AbX (by omega),hKg i hi']
   exact⟨i+1,by omega,by rw [hVs];(repeat' (first | exact Aan | refine Aah rfl ?_)),by omega,rfl⟩
 ·have:i=64:=by omega
  subst this
  generalize V 64=X
  generalize fillA 0 W 64 64=Y
  refine Aab (Aad (Aaa 3 rfl ?_));refine Aae (Aas rfl rfl (AaV _ _)) rfl rfl rfl rfl ?_;refine Aaa 3 rfl ?_
  refine Aae (Aas rfl rfl (AaV _ _)) rfl rfl rfl rfl ?_;refine Aaa 3 rfl ?_;refine Aae (Aas rfl rfl (AaV _ _)) rfl rfl rfl rfl ?_
  refine Aaa 3 rfl ?_;refine Aae (Aas rfl rfl (AaV _ _)) rfl rfl rfl rfl ?_;refine Aaa 3 rfl ?_
  refine Aae (Aas rfl rfl (AaV _ _)) rfl rfl rfl rfl ?_;refine Aaa 3 rfl ?_;refine Aae (Aas rfl rfl (AaV _ _)) rfl rfl rfl rfl ?_
  refine Aaa 3 rfl ?_;refine Aae (Aas rfl rfl (AaV _ _)) rfl rfl rfl rfl ?_;refine Aaa 3 rfl ?_
  refine Aae (Aas rfl rfl (AaV _ _)) rfl rfl rfl rfl ?_;refine Aae (Adl rfl rfl) rfl rfl rfl rfl ?_;refine Aaa 1 rfl ?_
  refine Aac ?_;exact AaD (retd rfl ⟨_,AaJ rfl⟩)
end Go.Eng.Ses
namespace Go.Eng.Ses
open Go Go.Eng
variable [Inhabited GlobT]
attribute [local irreducible] OpR TL TD TC TS Aaz
theorem AmQ (b:UInt8):∀ n,Lib.repeatL [b] n=List.replicate n b
 | 0=>rfl
 | n+1=>by rw [Lib.repeatL,AmQ b n,List.replicate_succ];rfl
theorem repeat_one (b:UInt8) (n:Nat) (h:n≤1000000):Aaz AP0 Abk [.str [b],n64 n] (.str (List.replicate n b)) :=
 Afl (g:=AdZ) rfl (by
  have h1:(0:Int)≤n∧(n:Int)≤9223372036854775807∧[b].length*(n:Int).toNat≤140737488355328:=⟨by omega,by omega,by simp;omega⟩
  show (if _ then _ else _)=_
  rw [if_pos h1,Int.toNat_natCast,AmQ])
theorem strsOf_map:∀ (ss:List (List UInt8)),AkQ (ss.map fun s=>[.str s])=some ss
 | []=>rfl
 | s::ss=>by simp only [List.map_cons,AkQ,strsOf_map ss]
theorem join_nil (ss:List (List UInt8)):Lib.join ss []=ss.flatten:=by
 unfold Lib.join
 induction ss with
 | nil=>rfl
 | cons s ss ih =>
   cases ss with
   | nil=>simp [List.intercalate]
   | cons t ss=>simp only [List.intercalate,List.intersperse_cons_cons,List.flatten_cons] at ih ⊢;rw [ih];simp
theorem join_ok0 (ss:List (List UInt8)) (h:ss.flatten.length≤1000000) (hl:ss.length≤1000000):Aaz AP0 AeK [.imm (ss.map fun s=>[.str s]),.str []] (.str ss.flatten) :=
 Afl (g:=joinG) rfl (by
  have h1:(Lib.join ss []).length≤140737488355328∧ss.length≤140737488355328:=⟨by rw [join_nil];omega,by omega⟩
  simp only [joinG,rowsV,strsOf_map]
  rw [if_pos h1,join_nil])
def wholeP (s:List UInt8):List UInt8:=s++[128]++List.replicate ((64 - (s.length+1+8)%64)%64) 0++putB (BitVec.ofNat 64 (8*s.length)) 8
theorem wholeP_mod (s:List UInt8):(wholeP s).length%64=0:=by simp [wholeP];omega
theorem wholeP_len (s:List UInt8):(wholeP s).length≤s.length+73+64:=by simp [wholeP];omega
theorem whole_ok (s:List UInt8) (h:s.length≤1000000):Aaz AP0 Anu [.str s] (.str (wholeP s)):=by
 refine Aav (af:=Aiu) rfl rfl ?_
 refine Aab (Aad (Aaa 1 rfl (Aac (Aab (Aad (Aaa 2 rfl ?_))))))
 refine Aae (Aax (b:=1) rfl rfl (by omega)) rfl rfl rfl rfl ?_;refine Aae (Aax (b:=8) rfl rfl (by omega)) rfl rfl rfl rfl ?_
 refine Aae (Acj (b:=64) rfl rfl (by omega)) rfl rfl rfl rfl ?_
 refine Aae (AbQ (a:=64) rfl rfl (by omega) (by omega)) rfl rfl rfl rfl ?_;refine Aaa 1 rfl (Aac (Aab ?_))
 refine Aad (Aaa 1 rfl ?_);refine Aae (AdD rfl rfl (by simp;omega)) rfl rfl rfl rfl ?_;refine Aaa 1 rfl ?_
 refine Aae (Acj (b:=64) rfl rfl (by omega)) rfl rfl rfl rfl ?_;refine Aap rfl rfl (repeat_one _ _ (by omega)) rfl rfl rfl rfl rfl rfl ?_
 refine Aae (AdD rfl rfl (by simp;omega)) rfl rfl rfl rfl ?_;refine Aaa 2 rfl ?_
 refine Aae (Ags rfl (AdR (by omega))) rfl rfl rfl rfl ?_;refine Aae (o_mulu (a:=8) rfl rfl (AdR (by omega))) rfl rfl rfl rfl ?_
 refine Aap rfl rfl (put_okn _ 8 (by omega) (by decide)) rfl rfl rfl rfl rfl rfl ?_
 refine Aae (AdD rfl rfl (by simp;omega)) rfl rfl rfl rfl ?_;refine Aaa 1 rfl (Aac ?_);exact AaD (retd rfl ⟨_,AaJ rfl⟩)
def blocksP:Nat→W8→List UInt8→W8
 | 0,h,_=>h
 | n+1,h,p=>blocksP n (Alp h keyW (p.take 64)) (p.drop 64)
def start8:W8:=⟨AfI 0,AfI 1,AfI 2,AfI 3,AfI 4,AfI 5,AfI 6,AfI 7⟩
def shaW (s:List UInt8):W8:=blocksP ((wholeP s).length / 64) start8 (wholeP s)
def put4 (h:W8) (j:Nat):List UInt8:=putB ((h.l.getD j 0).setWidth 64) 4
def sumB (h:W8):List UInt8:=(List.range 8).flatMap (put4 h)
def shaP (s:List UInt8):List UInt8:=sumB (shaW s)
theorem Aff (f:Nat→List UInt8) (hf:∀ j,(f j).length=4):∀ i,((List.range i).flatMap f).length=4*i
 | 0=>rfl
 | i+1=>by rw [List.range_succ,List.flatMap_append,List.length_append,Aff f hf i];simp [hf];omega
def outF (f:Nat→List UInt8) (i:Nat):List UInt8:=(List.range i).flatMap f++List.replicate (32 - 4*i) 0
theorem outF_len {f:Nat→List UInt8} (hf:∀ j,(f j).length=4) {i:Nat} (h:i≤8):(outF f i).length=32:=by
 unfold outF;rw [List.length_append,Aff f hf,List.length_replicate];omega
theorem outF_step {f:Nat→List UInt8} (hf:∀ j,(f j).length=4) {i:Nat} (h:i<8):(outF f i).take (4*i)++f i++(outF f i).drop (4*i+(f i).length)=outF f (i+1):=by
 have hl:=Aff f hf i
 unfold outF
 rw [List.take_append_of_le_length (by omega),List.take_of_length_le (by omega),List.drop_append,List.drop_eq_nil_of_le (by rw [hf];omega),hl,hf,List.range_succ,List.flatMap_append]
 simp only [List.nil_append,List.flatMap_cons,List.flatMap_nil,List.append_nil,List.drop_replicate]
 congr 2;omega
theorem Ajf (h:W8) (j:Nat):(put4 h j).length=4:=putB_len _ _
theorem Ahe (s:List UInt8):(shaP s).length=32:=Aff _ (Ajf _) 8
attribute [local irreducible] keyW AfI Alp putB wholeP
set_option maxHeartbeats 4000000 in
theorem sum_ok (ss:List (List UInt8)) (hl:ss.length≤1000000) (h:ss.flatten.length≤1000000):Aaz AP0 f_sha_Sum [.imm (ss.map fun s=>[.str s])] (.agg ((shaP ss.flatten).map g8)):=by
 obtain⟨R,hR⟩:∃ R,shaW ss.flatten=R:=⟨_,rfl⟩
 have hsp:shaP ss.flatten=sumB R:=by unfold shaP;rw [hR]
 rw [hsp]
 unfold shaW at hR
 have hmod:=wholeP_mod ss.flatten
 refine Aav (af:=c_sha_Sum) rfl rfl ?_
 refine Aab (Aad (Aaa 1 rfl (Aac (Aab (Aad ?_)))))
 refine Aap rfl rfl (start_ok) rfl rfl rfl rfl rfl rfl ?_;refine Aap rfl rfl (keys_ok) rfl rfl rfl rfl rfl rfl ?_;refine Aaa 4 rfl ?_
 refine Aac (Aab (Aab (Aad (Aaa 1 rfl ?_))))
 refine Aap rfl (by simp [AVal.closed,AaC,AaX,AaL,Abe]) (join_ok0 ss h hl) (by simp [AVal.noref,AVal.flat,norefL,Abn,AbZ,Acl]) rfl rfl rfl rfl rfl ?_
 refine Aap rfl rfl (whole_ok _ h) rfl rfl rfl rfl rfl rfl ?_;refine Aaa 1 rfl (Aac ?_)
 refine Aak (AaE (σ:=Nat × W8 × List UInt8) (fun s=>s.1) (fun s=>[(2,.ptr 0 0 0),(3,.ptr 1 0 0),(4,.ptr 2 0 0),(5,.str s.2.2)])
  (fun s S=>s.2.2.length=64*s.1∧blocksP s.1 s.2.1 s.2.2=R∧S=[some ⟨32,[zs .u8 32]⟩,some ⟨8,[s.2.1.l.map w32]⟩,some ⟨64,[((List.range 64).map keyW).map w32]⟩])
  ((wholeP ss.flatten).length / 64,start8,wholeP ss.flatten) (by (repeat' (first | exact Aan | refine Aah rfl ?_))) ⟨by dsimp only;omega,hR,rfl⟩ ?_)
 rintro⟨n,v,p⟩ S ⟨hp,hb,rfl⟩
 dsimp only at *
 clear hR hsp hmod
 refine Aab (Aab (Aad (Aaa 2 rfl (Aac ?_))))
 cases n with
 | zero =>
   have hp0:p=[]:=List.length_eq_zero_iff.1 (by omega)
   subst hp0
   have:v=R:=hb
   subst this
   refine AaI (t:=false) rfl (fun h=>nomatch h) (fun _=>AaA ?_)
   refine Aab (Aad (Aaa 1 rfl (Aac (Aab (Aab (Aad ?_))))))
   refine Aaa 2 rfl (Aac ?_)
   refine Aak (AaE (σ:=Nat) (fun i=>8 - i) (fun i=>[(2,.ptr 0 0 0),(6,.ptr 3 0 0),(22,v.v),(23,n64 i)])
    (fun i S=>i≤8∧S=[some ⟨32,[zs .u8 32]⟩,some ⟨8,[v.l.map w32]⟩,some ⟨64,[((List.range 64).map keyW).map w32]⟩,some ⟨32,[(outF (put4 v) i).map g8]⟩]) 0 (by (repeat' (first | exact Aan | refine Aah rfl ?_))) ⟨by omega,rfl⟩ ?_)
   rintro i S ⟨hi,rfl⟩
   refine Aab (Aad (Aaa 1 rfl (Aac (Aab ?_))))
   refine Aar rfl decide_eq_true_iff (fun h=>Aao ?_) (fun h=>AaA ?_)
   ·have hi':i<8:=by omega
    have ho:=outF_len (Ajf v) hi
    refine Aab ?_;refine Aak ?_;refine Aab (Aad (Aaa 1 rfl ?_))
    refine Aae (o_idxA 0 rfl rfl (by omega) (by omega)) rfl rfl rfl rfl ?_;refine Aaa 2 rfl (Aac ?_);refine AaH rfl ?_
    refine Aal 1 rfl ?_;refine Aai rfl rfl (Aey (a:=4) rfl rfl (by omega)) ?_
    refine Aai rfl rfl (o_sliceA1 rfl rfl (by omega) rfl (Nat.le_of_ble_eq_true rfl)) ?_;refine Aal 1 rfl ?_
    refine Aai rfl rfl (Anh rfl) ?_;refine AaS rfl rfl (AkV _ 4 (by decide)) rfl rfl rfl rfl rfl ?_
    refine Aai rfl rfl (o_copyA rfl rfl rfl (by omega) (by simp;omega)) ?_;refine AaQ ?_;refine⟨rfl,?_⟩;refine Aad ?_
    refine Aae (Aax (b:=1) rfl rfl (by omega)) rfl rfl rfl rfl ?_;refine Aaa 1 rfl (Aac ?_)
    refine⟨i+1,by omega,by (repeat' (first | exact Aan | refine Aah rfl ?_)),by omega,?_⟩
    rw [←outF_step (Ajf v) hi']
    rfl
   ·have:i=8:=by omega
    subst this
    have e:outF (put4 v) 8=sumB v:=by unfold outF sumB;simp
    have hsl:(sumB v).length=32:=Aff _ (Ajf _) 8
    rw [e]
    refine Aab (Aad ?_);refine Aae (AbM rfl rfl (by simp;omega)) rfl rfl rfl rfl ?_
    refine Aae (Abf rfl rfl rfl (by simp) (by simp;omega) (AaF (fun _=>rfl) _)) rfl rfl rfl rfl ?_;refine Aac ?_
    exact AaD (AcO rfl rfl (by simp;omega) (AaL (fun _=>rfl) _))
 | succ n =>
   refine Aar (t := !(p == [])) rfl (p:=True) (by cases p with | nil=>simp at hp | cons a b=>simp) (fun _=>Aao ?_) (fun h=>absurd trivial h)
   have hlt:(p.take 64).length=64:=by simp;omega
   refine Aab ?_;refine Aak ?_;refine Aeu ?_;refine Aes rfl ?_;refine Aal 2 rfl ?_
   refine Aai rfl rfl (Aft rfl rfl (by simp;omega)) ?_;refine AaQ ?_;refine⟨rfl,?_⟩;refine AcF ?_
   refine tl_callP rfl (Afc (frzP_ok rfl) (Afc (frzP_ptr rfl rfl (AaL (fun _=>rfl) _)) (Afc (frzP_ok rfl) frzPL_nil))) (step_ok v keyW (p.take 64) hlt) rfl rfl rfl rfl rfl rfl rfl ?_
   refine Aac ?_;refine AcF ?_;refine Aaa 1 rfl (Aac ?_);refine AkO ?_;refine Aad (Aaa 1 rfl ?_)
   refine Aae (o_sliceL rfl rfl (by simp;omega)) rfl rfl rfl rfl ?_;refine Aaa 1 rfl (Aac ?_)
   refine⟨(n,Alp v keyW (p.take 64),p.drop 64),by dsimp only;omega,by (repeat' (first | exact Aan | refine Aah rfl ?_)),by simp;omega,hb,rfl⟩
end Go.Eng.Ses
namespace Go.Eng.Ses
open Go Go.Eng
variable [Inhabited GlobT]
attribute [local irreducible] OpR TL TD TC TS Aaz shaP Alp putB
theorem text_ok (ss:List (List UInt8)) (hl:ss.length≤1000000) (h:ss.flatten.length≤1000000):Aaz AP0 Afg [.imm (ss.map fun s=>[.str s])] (.str (shaP ss.flatten)):=by
 have hlen:=Ahe ss.flatten
 refine Aav (af:=Aks) rfl rfl ?_
 refine Aab (Aad (Aaa 1 rfl (Aac (Aab (Aad (Aaa 1 rfl ?_))))))
 refine Aap rfl (by simp [AVal.closed,AaC,AaL,Abe]) (sum_ok ss hl h) (by simp [AVal.noref,AVal.flat,norefL,Abn,AbZ,Acl]) rfl rfl rfl rfl rfl ?_
 refine Aaa 1 rfl ?_;refine Aae (Abf rfl rfl rfl (by simp) (by simp;omega) (AaF (fun _=>rfl) _)) rfl rfl rfl rfl ?_
 refine Aac (Aab (Aad (Aaa 1 rfl ?_)));refine Aae (o_textA0 rfl rfl (by omega)) rfl rfl rfl rfl ?_
 refine Aaa 1 rfl (Aac ?_);exact AaD (retd rfl ⟨_,AaJ rfl⟩)
theorem AeI (x:BitVec 32) (n:Nat) (hn:n≤32):Aaz AP0 AbN [w32 x,n64 n] (w32 (ror x n)):=by
 have:ror x n=x >>> n ||| x <<< (32 - n):=BitVec.or_comm _ _
 rw [this]
 refine Aav (af:=Akz) rfl rfl ?_
 refine Aab (Aad (Aaa 1 rfl (Aac (Aab ?_))));refine AaH rfl ?_;refine Aal 2 rfl ?_
 refine Aai rfl rfl (Aas rfl rfl (AfF _ _)) ?_;refine Aal 2 rfl ?_;refine Aai rfl rfl (AbQ (a:=32) rfl rfl (by omega) (by omega)) ?_
 refine Aai rfl rfl (Aas rfl rfl (bshl_u32 _ _)) ?_;refine Aai rfl rfl (Aas rfl rfl (bor_u32 _ _)) ?_;refine Aal 1 rfl (AaQ ?_)
 refine⟨rfl,?_⟩;exact AaD (retd rfl ⟨_,AaJ rfl⟩)
def keyL:List (BitVec 32):=[0x428a2f98,0x71374491,0xb5c0fbcf,0xe9b5dba5,0x3956c25b,0x59f111f1,0x923f82a4,0xab1c5ed5,
 0xd807aa98,0x12835b01,0x243185be,0x550c7dc3,0x72be5d74,0x80deb1fe,0x9bdc06a7,0xc19bf174,
 0xe49b69c1,0xefbe4786,0x0fc19dc6,0x240ca1cc,0x2de92c6f,0x4a7484aa,0x5cb0a9dc,0x76f988da,
 0x983e5152,0xa831c66d,0xb00327c8,0xbf597fc7,0xc6e00bf3,0xd5a79147,0x06ca6351,0x14292967,
 0x27b70a85,0x2e1b2138,0x4d2c6dfc,0x53380d13,0x650a7354,0x766a0abb,0x81c2c92e,0x92722c85,
 0xa2bfe8a1,0xa81a664b,0xc24b8b70,0xc76c51a3,0xd192e819,0xd6990624,0xf40e3585,0x106aa070,
 0x19a4c116,0x1e376c08,0x2748774c,0x34b0bcb5,0x391c0cb3,0x4ed8aa4a,0x5b9cca4f,0x682e6ff3,
 0x748f82ee,0x78a5636f,0x84c87814,0x8cc70208,0x90befffa,0xa4506ceb,0xbef9a3f7,0xc67178f2]
def start8L:W8:=⟨0x6a09e667,0xbb67ae85,0x3c6ef372,0xa54ff53a,0x510e527f,0x9b05688c,0x1f83d9ab,0x5be0cd19⟩
theorem keyW_eq:(List.range 64).map keyW=keyL:=by kernel_rfl
theorem start8_eq:start8=start8L:=by kernel_rfl
abbrev r32 (w:BitVec 32):List AVal:=[w32 w]
theorem K_ok:Aaz AP0 f_r03_K [] (.imm (((List.range 64).map keyW).map r32)):=by
 rw [keyW_eq]
 refine Aav (af:=c_r03_K) rfl rfl ?_
 refine Aab (Aad (Aaa 1 rfl (Aac (Aab (Aad ?_)))))
 refine Aae (AaU rfl rfl rfl) rfl rfl rfl rfl ?_;refine Aaa 1 rfl (Aac ?_);exact AaD (retd_lim rfl rfl)
theorem Start_ok:Aaz AP0 AnA [] (.imm (start8.l.map r32)):=by
 rw [start8_eq]
 refine Aav (af:=AiA) rfl rfl ?_
 refine Aab (Aad (Aaa 1 rfl (Aac (Aab (Aad ?_)))))
 refine Aae (AaU rfl rfl rfl) rfl rfl rfl rfl ?_;refine Aaa 1 rfl (Aac ?_);exact AaD (retd_lim rfl rfl)
end Go.Eng.Ses
namespace Go.Eng.Ses
open Go Go.Eng
variable [Inhabited GlobT]
attribute [local irreducible] OpR TL TD TC TS Aaz
theorem ch_eq (e f g:BitVec 32):(e &&& f) ^^^ ((0xffffffff#32 - e) &&& g)=g ^^^ e &&& (f ^^^ g):=by
 have:(0xffffffff#32 - e) = ~~~ e:=by
  apply BitVec.eq_of_toNat_eq
  rw [BitVec.toNat_sub,BitVec.toNat_not]
  have:=e.isLt
  simp;omega
 rw [this]
 apply BitVec.eq_of_getLsbD_eq
 intro i hi
 simp only [BitVec.getLsbD_xor,BitVec.getLsbD_and,BitVec.getLsbD_not,hi,decide_true,Bool.true_and]
 cases e.getLsbD i<;>cases f.getLsbD i<;>cases g.getLsbD i<;>rfl
theorem maj_eq (a b c:BitVec 32):(a &&& b) ^^^ (a &&& c) ^^^ (b &&& c)=a &&& b ||| c &&& (a ||| b):=by
 apply BitVec.eq_of_getLsbD_eq
 intro i hi
 simp only [BitVec.getLsbD_xor,BitVec.getLsbD_and,BitVec.getLsbD_or]
 cases a.getLsbD i<;>cases b.getLsbD i<;>cases c.getLsbD i<;>rfl
def pw (s:List UInt8) (i j:Nat):BitVec 32:=((s.drop (4*i)).take j).foldl (fun n b=>n*256#32+b.toBitVec.setWidth 32) 0
theorem pw_step {s:List UInt8} (hs:s.length=64) {i j:Nat} (hi:i<16) (hj:j<4):pw s i (j+1)=pw s i j*256#32+(s[4*i+j]'(by omega)).toBitVec.setWidth 32:=by
 unfold pw
 rw [List.take_succ_eq_append_getElem (by simp;omega),List.foldl_append]
 simp only [List.foldl_cons,List.foldl_nil,List.getElem_drop]
theorem or_add (x:BitVec 64) (b:BitVec 8):(x <<< 8 ||| b.setWidth 64)=x*256#64+b.setWidth 64:=by
 have h1:x <<< 8=x*256#64:=by
  apply BitVec.eq_of_toNat_eq
  rw [BitVec.toNat_shiftLeft,BitVec.toNat_mul,Nat.shiftLeft_eq];rfl
 have h2:(x <<< 8) &&& b.setWidth 64=0#64:=by
  apply BitVec.eq_of_getLsbD_eq
  intro i hi
  simp only [BitVec.getLsbD_and,BitVec.getLsbD_shiftLeft,BitVec.getLsbD_setWidth,BitVec.getLsbD_zero]
  by_cases h:i<8
  ·simp [h]
  ·rw [BitVec.getLsbD_of_ge b i (by omega)];simp
 rw [←BitVec.add_eq_or_of_and_eq_zero _ _ h2,h1]
theorem foldW (l:List UInt8) (n:BitVec 64):(l.foldl (fun(n:BitVec 64) b=>n <<< 8 ||| b.toBitVec.setWidth 64) n).setWidth 32=l.foldl (fun n b=>n*256#32+b.toBitVec.setWidth 32) (n.setWidth 32):=by
 induction l generalizing n with
 | nil=>rfl
 | cons b l ih =>
   simp only [List.foldl_cons]
   rw [ih,or_add]
   congr 1
   apply BitVec.eq_of_toNat_eq
   simp only [BitVec.toNat_setWidth,BitVec.toNat_add,BitVec.toNat_mul,BitVec.toNat_ofNat]
   omega
theorem pw_full (s:List UInt8) (i:Nat):pw s i 4=word4 s i:=by
 unfold pw word4 getB
 rw [foldW,←List.take_drop]
 congr 2
set_option maxHeartbeats 4000000 in
theorem stepR_ok (v:W8) (s:List UInt8) (hs:s.length=64):Aaz AP0 f_r03_Step [.imm (v.l.map r32),.str s] (.imm ((Alp v keyW s).l.map r32)):=by
 obtain⟨W,hW⟩:∃ W,wf (word4 s)=W:=⟨_,rfl⟩
 obtain⟨V,hV⟩:∃ V,vr keyW W v=V:=⟨_,rfl⟩
 have hst:Alp v keyW s=addW v (V 64):=by unfold Alp;rw [hW,hV]
 have hV0:V 0=v:=by rw [←hV];rfl
 have hVs:∀ i,V (i+1)=rnd (V i) (keyW i) (W i):=fun i=>by rw [←hV];rfl
 have hWl:∀ i,i<16→W i=pw s i 4:=fun i h=>by rw [←hW,wf_lt h,pw_full]
 have hWg:∀ i,¬ i<16→W i=W (i - 16)+sg0 (W (i - 15))+W (i - 7)+sg1 (W (i - 2)):=fun i h=>by rw [←hW,wf_ge h]
 rw [hst]
 clear hst hV hW
 have hK:=K_ok
 obtain⟨KL,hKL⟩:∃ KL,(List.range 64).map keyW=KL:=⟨_,rfl⟩
 have hKl:KL.length=64:=by rw [←hKL];simp
 have hKg:∀ i,i<64→KL.getD i 0=keyW i:=fun i h=>by rw [←hKL,Abj h]
 rw [hKL] at hK
 clear hKL
 refine Aav (af:=AkB) rfl rfl ?_
 refine Aab (Aad (Aaa 1 rfl (Aac (Aab (Aad ?_)))))
 refine Aap rfl rfl (hK) rfl rfl rfl rfl rfl rfl ?_;refine Aaa 1 rfl (Aac (Aab (Aad ?_)))
 refine Aaa 2 rfl (Aac (Aab (Aab (Aad (Aaa 1 rfl (Aac ?_))))))
 refine Aak (AaE (σ:=Nat) (fun i=>16 - i) (fun i=>[(0,.imm (v.l.map r32)),(1,.str s),(5,.imm (KL.map r32)),(6,.view 0 0 64 true),(7,n64 i)])
  (fun i S=>i≤16∧S=[some ⟨1,(fillA 0 W 64 i).map r32⟩]) 0 (by (repeat' (first | exact Aan | refine Aah rfl ?_))) ⟨by omega,rfl⟩ ?_)
 rintro i S ⟨hi,rfl⟩
 refine Aab (Aab (Aad (Aaa 2 rfl (Aac ?_))))
 refine Aar rfl decide_eq_true_iff (fun h=>Aao ?_) (fun h=>AaA ?_)
 ·have hi':i<16:=by omega
  refine Aab ?_;refine Aak ?_;refine Aab (Aad (Aaa 1 rfl (Aac ?_)))
  refine Aak (AaE (σ:=Nat) (fun j=>4 - j) (fun j=>[(0,.imm (v.l.map r32)),(1,.str s),(5,.imm (KL.map r32)),(6,.view 0 0 64 true),(7,n64 i),(8,n64 j)])
   (fun j S=>j≤4∧S=[some ⟨1,((fillA 0 W 64 i).set i (pw s i j)).map r32⟩]) 0 (by (repeat' (first | exact Aan | refine Aah rfl ?_))) ⟨by omega,by rw [show pw s i 0=0 from rfl,fillA_set0 (by omega)]⟩ ?_)
  rintro j S ⟨hj,rfl⟩
  refine Aab (Aab (Aad (Aaa 2 rfl (Aac ?_))))
  refine Aar rfl decide_eq_true_iff (fun h=>Aao ?_) (fun h=>AaA ?_)
  ·have hj':j<4:=by omega
   refine Aab ?_;refine Aak ?_;refine AaH rfl ?_;refine Aal 4 rfl ?_;refine Aai rfl rfl (AaP rfl rfl (by omega) rfl rfl) ?_
   refine Aai rfl rfl (Aec 0 rfl rfl (by simp;omega) rfl) ?_;refine Aai rfl rfl (Aas rfl rfl (bmul_u32 _ (256#32))) ?_;refine Aal 2 rfl ?_
   refine Aai rfl rfl (Aey (a:=4) rfl rfl (by omega)) ?_;refine Aal 1 rfl ?_;refine Aai rfl rfl (Aax rfl rfl (by omega)) ?_
   refine Aai rfl rfl (Adt rfl rfl (by omega)) ?_;refine Aai rfl rfl (AhW rfl) ?_;refine Aai rfl rfl (Aas rfl rfl (AaV _ _)) ?_
   refine Aai rfl rfl (AaP rfl rfl (by omega) rfl rfl) ?_;refine Aai rfl rfl (AlK 0 rfl rfl rfl (by simp;omega) ⟨_,rfl⟩ rfl rfl) ?_
   refine AaQ ?_;refine⟨rfl,?_⟩;refine Aad (Aaa 1 rfl ?_);refine Aae (Aax (b:=1) rfl rfl (by omega)) rfl rfl rfl rfl ?_
   refine Aaa 1 rfl (Aac ?_)
   rw [getD_set_eq (by simp;omega),←pw_step hs hi' hj',List.set_set]
   exact⟨j+1,by omega,by (repeat' (first | exact Aan | refine Aah rfl ?_)),by omega,rfl⟩
  ·have:j=4:=by omega
   subst this
   rw [←hWl i hi',Abo (by omega)]
   refine Aad (Aaa 1 rfl ?_);refine Aae (Aax (b:=1) rfl rfl (by omega)) rfl rfl rfl rfl ?_;refine Aaa 1 rfl ?_
   refine Aac ?_
   exact⟨i+1,by omega,by (repeat' (first | exact Aan | refine Aah rfl ?_)),by omega,rfl⟩
 ·have:i=16:=by omega
  subst this
  refine Aab (Aab (Aad (Aaa 1 rfl (Aac ?_))))
  refine Aak (AaE (σ:=Nat) (fun i=>64 - i) (fun i=>[(0,.imm (v.l.map r32)),(5,.imm (KL.map r32)),(6,.view 0 0 64 true),(9,n64 i)])
   (fun i S=>16≤i∧i≤64∧S=[some ⟨1,(fillA 0 W 64 i).map r32⟩]) 16 (by (repeat' (first | exact Aan | refine Aah rfl ?_))) ⟨by omega,by omega,rfl⟩ ?_)
  rintro i S ⟨h16,hi,rfl⟩
  refine Aab (Aab (Aad (Aaa 2 rfl (Aac ?_))))
  refine Aar rfl decide_eq_true_iff (fun h=>Aao ?_) (fun h=>AaA ?_)
  ·have hi':i<64:=by omega
   refine Aab ?_;refine Aak ?_;refine Aab ?_;refine AaH rfl ?_;refine Aal 2 rfl ?_
   refine Aai rfl rfl (AbQ (b:=15) rfl rfl (by omega) (by omega)) ?_;refine Aai rfl rfl (AaP rfl rfl (by omega) rfl rfl) ?_
   refine Aai rfl rfl (Aec 0 rfl rfl (by simp;omega) rfl) ?_;refine AaS rfl rfl (AeI _ 7 (by decide)) rfl rfl rfl rfl rfl ?_
   refine Aal 2 rfl ?_;refine Aai rfl rfl (AbQ (b:=15) rfl rfl (by omega) (by omega)) ?_
   refine Aai rfl rfl (AaP rfl rfl (by omega) rfl rfl) ?_;refine Aai rfl rfl (Aec 0 rfl rfl (by simp;omega) rfl) ?_
   refine AaS rfl rfl (AeI _ 18 (by decide)) rfl rfl rfl rfl rfl ?_;refine Aai rfl rfl (Aas rfl rfl (Abl _ _)) ?_
   refine Aal 2 rfl ?_;refine Aai rfl rfl (AbQ (b:=15) rfl rfl (by omega) (by omega)) ?_
   refine Aai rfl rfl (AaP rfl rfl (by omega) rfl rfl) ?_;refine Aai rfl rfl (Aec 0 rfl rfl (by simp;omega) rfl) ?_
   refine Aai rfl rfl (Aas rfl rfl (AfF _ 3)) ?_;refine Aai rfl rfl (Aas rfl rfl (Abl _ _)) ?_;refine Aal 1 rfl (AaQ ?_)
   refine⟨rfl,?_⟩;refine Aab ?_;refine AaH rfl ?_;refine Aal 2 rfl ?_
   refine Aai rfl rfl (AbQ (b:=2) rfl rfl (by omega) (by omega)) ?_;refine Aai rfl rfl (AaP rfl rfl (by omega) rfl rfl) ?_
   refine Aai rfl rfl (Aec 0 rfl rfl (by simp;omega) rfl) ?_;refine AaS rfl rfl (AeI _ 17 (by decide)) rfl rfl rfl rfl rfl ?_
   refine Aal 2 rfl ?_;refine Aai rfl rfl (AbQ (b:=2) rfl rfl (by omega) (by omega)) ?_
   refine Aai rfl rfl (AaP rfl rfl (by omega) rfl rfl) ?_;refine Aai rfl rfl (Aec 0 rfl rfl (by simp;omega) rfl) ?_
   refine AaS rfl rfl (AeI _ 19 (by decide)) rfl rfl rfl rfl rfl ?_;refine Aai rfl rfl (Aas rfl rfl (Abl _ _)) ?_
   refine Aal 2 rfl ?_;refine Aai rfl rfl (AbQ (b:=2) rfl rfl (by omega) (by omega)) ?_
   refine Aai rfl rfl (AaP rfl rfl (by omega) rfl rfl) ?_;refine Aai rfl rfl (Aec 0 rfl rfl (by simp;omega) rfl) ?_
   refine Aai rfl rfl (Aas rfl rfl (AfF _ 10)) ?_;refine Aai rfl rfl (Aas rfl rfl (Abl _ _)) ?_;refine Aal 1 rfl ?_
   refine AaQ ?_;refine⟨rfl,?_⟩;refine AaH rfl ?_;refine Aal 4 rfl ?_
   refine Aai rfl rfl (AbQ (b:=16) rfl rfl (by omega) (by omega)) ?_;refine Aai rfl rfl (AaP rfl rfl (by omega) rfl rfl) ?_
   refine Aai rfl rfl (Aec 0 rfl rfl (by simp;omega) rfl) ?_;refine Aal 1 rfl ?_;refine Aai rfl rfl (Aas rfl rfl (AaV _ _)) ?_
   refine Aal 2 rfl ?_;refine Aai rfl rfl (AbQ (b:=7) rfl rfl (by omega) (by omega)) ?_
   refine Aai rfl rfl (AaP rfl rfl (by omega) rfl rfl) ?_;refine Aai rfl rfl (Aec 0 rfl rfl (by simp;omega) rfl) ?_
   refine Aai rfl rfl (Aas rfl rfl (AaV _ _)) ?_;refine Aal 1 rfl ?_;refine Aai rfl rfl (Aas rfl rfl (AaV _ _)) ?_
   refine Aai rfl rfl (AaP rfl rfl (by omega) rfl rfl) ?_;refine Aai rfl rfl (AlK 0 rfl rfl rfl (by simp;omega) ⟨_,rfl⟩ rfl rfl) ?_
   refine AaQ ?_;refine⟨rfl,?_⟩;refine Aad (Aaa 1 rfl ?_);refine Aae (Aax (b:=1) rfl rfl (by omega)) rfl rfl rfl rfl ?_
   refine Aaa 1 rfl (Aac ?_)
   rw [AbX (by omega),AbX (by omega),AbX (by omega),AbX (by omega)]
   have e:W (i - 16)+(ror (W (i - 15)) 7 ^^^ ror (W (i - 15)) 18 ^^^ W (i - 15) >>> 3)+W (i - 7)+(ror (W (i - 2)) 17 ^^^ ror (W (i - 2)) 19 ^^^ W (i - 2) >>> 10)=W i:=(hWg i (by omega)).symm
   rw [e]
   exact⟨i+1,by omega,by (repeat' (first | exact Aan | refine Aah rfl ?_)),by omega,by omega,by rw [←Abo hi'];rfl⟩
  ·have:i=64:=by omega
   subst this
   refine Aab ?_;refine AaH rfl ?_;refine Aal 24 rfl ?_;refine Aai rfl rfl (AaU rfl rfl rfl) ?_;refine Aal 1 rfl ?_
   refine AaQ ?_;refine⟨rfl,?_⟩;refine Aab (Aab (Aad (Aaa 1 rfl (Aac ?_))))
   have hA:(fillA 0 W 64 64).length=64:=by simp
   have hAg:∀ i,i<64→(fillA 0 W 64 64).getD i 0=W i:=fun i h=>AbX h
   generalize fillA 0 W 64 64=A at hA hAg
   refine Aak (AaE (σ:=Nat) (fun i=>64 - i) (fun i=>[(0,.imm (v.l.map r32)),(5,.imm (KL.map r32)),(6,.view 0 0 64 true),(12,.lim ((V i).l.map r32)),(13,n64 i)])
    (fun i S=>i≤64∧S=[some ⟨1,A.map r32⟩]) 0 (by rw [hV0];(repeat' (first | exact Aan | refine Aah rfl ?_))) ⟨by omega,rfl⟩ ?_)
   rintro i S ⟨hi,rfl⟩
   refine Aab (Aab (Aad (Aaa 2 rfl (Aac ?_))))
   refine Aar rfl decide_eq_true_iff (fun h=>Aao ?_) (fun h=>AaA ?_)
   ·have hi':i<64:=by omega
    refine Aab ?_;refine Aak ?_;refine Aab ?_;refine AaH rfl ?_;refine Aal 3 rfl ?_
    refine AaS rfl rfl (AeI _ 6 (by decide)) rfl rfl rfl rfl rfl ?_;refine Aal 3 rfl ?_
    refine AaS rfl rfl (AeI _ 11 (by decide)) rfl rfl rfl rfl rfl ?_;refine Aai rfl rfl (Aas rfl rfl (Abl _ _)) ?_
    refine Aal 3 rfl ?_;refine AaS rfl rfl (AeI _ 25 (by decide)) rfl rfl rfl rfl rfl ?_
    refine Aai rfl rfl (Aas rfl rfl (Abl _ _)) ?_;refine Aal 1 rfl (AaQ ?_);refine⟨rfl,?_⟩;refine Aab ?_
    refine AaH rfl ?_;refine Aal 6 rfl ?_;refine Aai rfl rfl (Aas rfl rfl (AeE _ _)) ?_;refine Aal 3 rfl ?_
    refine Aai rfl rfl (Aas rfl rfl (bsub_u32 (4294967295#32) _)) ?_;refine Aal 3 rfl ?_;refine Aai rfl rfl (Aas rfl rfl (AeE _ _)) ?_
    refine Aai rfl rfl (Aas rfl rfl (Abl _ _)) ?_;refine Aal 1 rfl (AaQ ?_);refine⟨rfl,?_⟩;refine Aab ?_
    refine AaH rfl ?_;refine Aal 4 rfl ?_;refine Aai rfl rfl (Aas rfl rfl (AaV _ _)) ?_;refine Aal 1 rfl ?_
    refine Aai rfl rfl (Aas rfl rfl (AaV _ _)) ?_;refine Aal 2 rfl ?_
    refine Aai rfl rfl (Ack rfl rfl (AbI (d:=0) (by omega)) rfl) ?_;refine Aal 1 rfl ?_
    refine Aai rfl rfl (Aas rfl rfl (AaV _ _)) ?_;refine Aal 2 rfl ?_;refine Aai rfl rfl (AaP rfl rfl (by omega) rfl rfl) ?_
    refine Aai rfl rfl (Aec 0 rfl rfl (by omega) rfl) ?_;refine Aai rfl rfl (Aas rfl rfl (AaV _ _)) ?_;refine Aal 1 rfl ?_
    refine AaQ ?_;refine⟨rfl,?_⟩;refine Aab ?_;refine AaH rfl ?_;refine Aal 3 rfl ?_
    refine AaS rfl rfl (AeI _ 2 (by decide)) rfl rfl rfl rfl rfl ?_;refine Aal 3 rfl ?_
    refine AaS rfl rfl (AeI _ 13 (by decide)) rfl rfl rfl rfl rfl ?_;refine Aai rfl rfl (Aas rfl rfl (Abl _ _)) ?_
    refine Aal 3 rfl ?_;refine AaS rfl rfl (AeI _ 22 (by decide)) rfl rfl rfl rfl rfl ?_
    refine Aai rfl rfl (Aas rfl rfl (Abl _ _)) ?_;refine Aal 1 rfl (AaQ ?_);refine⟨rfl,?_⟩;refine Aab ?_
    refine AaH rfl ?_;refine Aal 7 rfl ?_;refine Aai rfl rfl (Aas rfl rfl (AeE _ _)) ?_;refine Aal 6 rfl ?_
    refine Aai rfl rfl (Aas rfl rfl (AeE _ _)) ?_;refine Aai rfl rfl (Aas rfl rfl (Abl _ _)) ?_;refine Aal 6 rfl ?_
    refine Aai rfl rfl (Aas rfl rfl (AeE _ _)) ?_;refine Aai rfl rfl (Aas rfl rfl (Abl _ _)) ?_
    refine Aai rfl rfl (Aas rfl rfl (AaV _ _)) ?_;refine Aal 1 rfl (AaQ ?_);refine⟨rfl,?_⟩;refine AaH rfl ?_
    refine Aal 2 rfl ?_;refine Aai rfl rfl (Aas rfl rfl (AaV _ _)) ?_;refine Aal 13 rfl ?_
    refine Aai rfl rfl (Aas rfl rfl (AaV _ _)) ?_;refine Aal 9 rfl ?_;refine Aai rfl rfl (AaU rfl rfl rfl) ?_;refine Aal 1 rfl ?_
    refine AaQ ?_;refine⟨rfl,?_⟩;refine Aad (Aaa 1 rfl ?_);refine Aae (Aax (b:=1) rfl rfl (by omega)) rfl rfl rfl rfl ?_
    refine Aaa 1 rfl (Aac ?_)
    rw [hAg i hi',hKg i hi',ch_eq,maj_eq]
    exact⟨i+1,by omega,by rw [hVs];(repeat' (first | exact Aan | refine Aah rfl ?_)),by omega,rfl⟩
   ·have:i=64:=by omega
    subst this
    generalize V 64=X
    clear hVs hV0
    refine Aab (Aad (Aaa 2 rfl (Aac (Aab (Aab (Aad ?_))))))
    refine Aaa 1 rfl (Aac ?_)
    refine Aak (AaE (σ:=Nat) (fun i=>8 - i) (fun i=>[(0,.imm (v.l.map r32)),(12,.lim (X.l.map r32)),(19,.view 1 0 8 true),(20,n64 i)])
     (fun i S=>i≤8∧S=[some ⟨1,A.map r32⟩,some ⟨1,(fillA 0 (fun j=>v.l.getD j 0+X.l.getD j 0) 8 i).map r32⟩]) 0 (by (repeat' (first | exact Aan | refine Aah rfl ?_))) ⟨by omega,rfl⟩ ?_)
    rintro i S ⟨hi,rfl⟩
    refine Aab (Aab (Aad (Aaa 2 rfl (Aac ?_))))
    refine Aar rfl decide_eq_true_iff (fun h=>Aao ?_) (fun h=>AaA ?_)
    ·have hi':i<8:=by omega
     refine Aab ?_;refine Aak ?_;refine AaH rfl ?_;refine Aal 4 rfl ?_
     refine Aai rfl rfl (Ack rfl rfl (AbI (d:=0) (by omega)) rfl) ?_;refine Aal 3 rfl ?_
     refine Aai rfl rfl (o_iaddr_lim rfl rfl (AbI (d:=0) (by omega)) rfl) ?_;refine Aal 1 rfl ?_
     refine Aai rfl rfl (Aas rfl rfl (AaV _ _)) ?_;refine Aai rfl rfl (AaP rfl rfl (by omega) rfl rfl) ?_
     refine Aai rfl rfl (AlK 0 rfl rfl rfl (by simp;omega) ⟨_,rfl⟩ rfl rfl) ?_;refine AaQ ?_;refine⟨rfl,?_⟩;refine Aad ?_
     refine Aaa 1 rfl ?_;refine Aae (Aax (b:=1) rfl rfl (by omega)) rfl rfl rfl rfl ?_;refine Aaa 1 rfl (Aac ?_)
     exact⟨i+1,by omega,by (repeat' (first | exact Aan | refine Aah rfl ?_)),by omega,by rw [←Abo hi'];rfl⟩
    ·have:i=8:=by omega
     subst this
     rw [Abu]
     refine Aab (Aad (Aaa 2 rfl (Aac ?_)))
     exact AaD (retd_view rfl rfl (by simp) rfl (Abe (fun _=>rfl) _))
end Go.Eng.Ses
namespace Go.Eng.Ses
open Go Go.Eng
variable [Inhabited GlobT]
attribute [local irreducible] OpR TL TD TC TS Aaz
abbrev g8r (b:UInt8):List AVal:=[.int .u8 (b.toNat:Int)]
theorem rep_succ (k:Nat):List.replicate (k+1) (0:UInt8)=List.replicate k 0++[0]:=List.replicate_succ'
theorem putB_take (n:BitVec 64) (i:Nat) (h:i<8):(putB n 8).take (i+1)=(putB n 8).take i++[UInt8.ofBitVec ((n >>> (8*(7 - i))).setWidth 8)]:=by
 rw [List.take_succ_eq_append_getElem (by simp;omega)]
 congr 2
 simp [putB]
set_option maxHeartbeats 4000000 in
theorem pad_ok (s:List UInt8) (h:s.length≤1000000):Aaz AP0 f_r03_Pad [.str s] (.str (wholeP s)):=by
 obtain⟨P,hP⟩:∃ P,(64 - (s.length+1+8)%64)%64=P:=⟨_,rfl⟩
 obtain⟨N,hN⟩:∃ N,BitVec.ofNat 64 (8*s.length)=N:=⟨_,rfl⟩
 have hw:wholeP s=s++[128]++List.replicate P 0++putB N 8:=by unfold wholeP;rw [hP,hN]
 have hNn:(s.length*8:Nat)=N.toNat:=by rw [←hN,BitVec.toNat_ofNat,Nat.mod_eq_of_lt (by omega)];omega
 rw [hw]
 clear hw hN
 refine Aav (af:=c_r03_Pad) rfl rfl ?_
 refine Aab (Aad (Aaa 1 rfl (Aac (Aab (Aad (Aaa 2 rfl ?_))))))
 refine Aae (Ags rfl (AdR (by omega))) rfl rfl rfl rfl ?_;refine Aae (o_mulu (b:=8) rfl rfl (AdR (by omega))) rfl rfl rfl rfl ?_
 refine Aaa 1 rfl (Aac (Aab (Aad (Aaa 1 rfl ?_))));refine Abh (Ani rfl) rfl rfl rfl rfl ?_
 refine Aae (AaU rfl rfl rfl) rfl rfl rfl rfl ?_
 rw [hNn]
 refine Abh (Anj rfl rfl rfl (by simp) rfl (by simp) (by simp;omega) rfl) rfl rfl rfl rfl ?_
 refine Aaa 1 rfl (Aac (Aab ?_))
 refine Aak (AaE (σ:=Nat × AVal) (fun q=>P - q.1) (fun q=>[(3,w64 N),(4,q.2)])
  (fun q S=>Acc 0 1 S q.2 ((s++[128]++List.replicate q.1 0).map g8r)∧q.1≤P) (0,.view 1 0 (s.length+1) false) (by (repeat' (first | exact Aan | refine Aah rfl ?_))) ⟨.inr ⟨by simp,1,by omega,by simp,by simp [g8r]⟩,by simp⟩ ?_)
 rintro⟨k,v⟩ S ⟨ha,hk⟩
 dsimp only at *
 refine Aab (Aab (Aad ?_))
 refine Aae (Abd rfl) rfl rfl rfl rfl ?_
 refine Aae (o_len_acc rfl ha) rfl rfl rfl rfl ?_
 simp only [List.length_map,List.length_append,List.length_cons,List.length_nil,List.length_replicate,Nat.zero_add]
 refine Aae (Acj (b:=64) rfl rfl (by omega)) rfl rfl rfl rfl ?_;refine Aaa 1 rfl (Aac ?_)
 refine Aar rfl bne_iff_ne (fun h=>Aao ?_) (fun h=>AaA ?_)
 ·have hk':k<P:=by omega
  refine Aak (Aad ?_)
  refine Aae (Abd rfl) rfl rfl rfl rfl ?_;refine Aae (AaU rfl rfl rfl) rfl rfl rfl rfl ?_
  refine tl_accE rfl rfl ha rfl (by simp) rfl (by simp;omega) (Nat.zero_le _) rfl rfl ?_
  intro v' S' ha' _ _
  refine Aae (Abd rfl) rfl rfl rfl rfl ?_;refine Aac ?_
  refine⟨(k+1,v'),by dsimp only;omega,by (repeat' (first | exact Aan | refine Aah rfl ?_)),?_,hk'⟩
  dsimp only
  rw [rep_succ,←List.append_assoc,List.map_append]
  exact ha'
 ·have:k=P:=by omega
  subst this
  refine Aab (Aab (Aad (Aaa 1 rfl (Aac ?_))))
  refine Aak (AaE (σ:=Nat × AVal) (fun q=>q.1) (fun q=>[(3,w64 N),(4,q.2),(5,.int .i64 ((q.1:Int) - 1))])
   (fun q S=>Acc 0 1 S q.2 ((s++[128]++List.replicate k 0++(putB N 8).take (8 - q.1)).map g8r)∧q.1≤8) (8,v) (by (repeat' (first | exact Aan | refine Aah rfl ?_))) ⟨by simpa using ha,Nat.le_refl 8⟩ ?_)
  clear ha
  rintro⟨r,v⟩ S ⟨ha,hr⟩
  dsimp only at *
  refine Aab (Aab (Aad (Aaa 2 rfl (Aac ?_))))
  refine Aar rfl decide_eq_true_iff (fun h=>Aao ?_) (fun h=>AaA ?_)
  ·obtain⟨r,rfl⟩:∃ j,r=j+1:=⟨r - 1,by omega⟩
   have e:((r+1:Nat):Int) - 1=(r:Int):=by omega
   rw [e]
   refine Aab ?_;refine Aak ?_;refine Aad ?_;refine Aae (Abd rfl) rfl rfl rfl rfl ?_;refine Aaa 2 rfl ?_
   refine Aae (Aey (a:=8) rfl rfl (by omega)) rfl rfl rfl rfl ?_;refine Aae (Aas rfl rfl (AbU _ _)) rfl rfl rfl rfl ?_
   refine Aae (Ahl rfl) rfl rfl rfl rfl ?_;refine Aae (AaU rfl rfl rfl) rfl rfl rfl rfl ?_
   refine tl_accE rfl rfl ha rfl (by simp) rfl (by simp;omega) (Nat.zero_le _) rfl rfl ?_
   intro v' S' ha' _ _
   refine Aae (Abd rfl) rfl rfl rfl rfl ?_;refine Aac (Aad (Aaa 1 rfl ?_))
   refine Aae (o_sub rfl rfl rfl (by omega) (by omega)) rfl rfl rfl rfl ?_;refine Aaa 1 rfl (Aac ?_)
   refine⟨(r,v'),by dsimp only;omega,by (repeat' (first | exact Aan | refine Aah rfl ?_)),?_,by omega⟩
   dsimp only
   rw [show 8 - r=(8 - (r+1))+1 by omega,putB_take N _ (by omega),←List.append_assoc,List.map_append,show 7 - (8 - (r+1))=r by omega]
   exact ha'
  ·have:r=0:=by omega
   subst this
   rw [Nat.sub_zero,show (putB N 8).take 8=putB N 8 from List.take_of_length_le (by simp)] at ha
   refine Aab (Aad ?_);refine Aae (Abd rfl) rfl rfl rfl rfl ?_
   obtain⟨ids,ho⟩:=o_textC (AP:=AP0) (slot:=S.length) (m:=(33,v)::[(22,AVal.bool (decide (((0:Nat):Int) - 1≥0))),(21,AVal.int IntKind.i64 (((0:Nat):Int) - 1)),(3,w64 N),(4,v),(5,.int .i64 (((0:Nat):Int) - 1))]) (x := .t 33) rfl ha
   refine Aae ho rfl rfl rfl rfl ?_
   refine Aaa 1 rfl (Aac ?_);exact AaD (retd rfl ⟨_,AaJ rfl⟩)
theorem byte_sw (w:BitVec 32) (k:Nat):(w.setWidth 64 >>> k).setWidth 8=(w >>> k).setWidth 8:=by
 apply BitVec.eq_of_getLsbD_eq
 intro i hi
 simp only [BitVec.getLsbD_setWidth,BitVec.getLsbD_ushiftRight]
 by_cases h:k+i<64
 ·simp [h]
 ·rw [BitVec.getLsbD_of_ge w (k+i) (by omega)];simp
def byteOut (h:W8) (i:Nat):UInt8:=UInt8.ofBitVec ((h.l.getD (i / 4) 0 >>> (24 - 8*(i%4))).setWidth 8)
theorem sumB_out (h:W8):(List.range 32).map (byteOut h)=sumB h:=by
 unfold sumB put4 putB byteOut
 simp only [byte_sw]
 rfl
attribute [local irreducible] keyW AfI Alp putB wholeP
set_option maxHeartbeats 4000000 in
theorem Text_ok (s:List UInt8) (h:s.length≤1000000):Aaz AP0 Ahp [.str s] (.str (shaP s)):=by
 obtain⟨R,hR⟩:∃ R,shaW s=R:=⟨_,rfl⟩
 have hsp:shaP s=sumB R:=by unfold shaP;rw [hR]
 rw [hsp]
 unfold shaW at hR
 have hmod:=wholeP_mod s
 have hwl:=wholeP_len s
 obtain⟨p,hp⟩:∃ p,wholeP s=p:=⟨_,rfl⟩
 have hpad:=pad_ok s h
 rw [hp] at hR hmod hwl hpad
 clear hsp hp
 refine Aav (af:=AkA) rfl rfl ?_
 refine Aab (Aad (Aaa 1 rfl (Aac (Aab (Aad (Aaa 1 rfl ?_))))))
 refine Aap rfl rfl (hpad) rfl rfl rfl rfl rfl rfl ?_;refine Aaa 1 rfl (Aac (Aab (Aad ?_)))
 refine Aap rfl rfl (Start_ok) rfl rfl rfl rfl rfl rfl ?_;refine Aaa 1 rfl (Aac (Aab (Aab ?_)))
 refine Aad (Aaa 1 rfl (Aac ?_))
 refine Aak (AaE (σ:=Nat × W8) (fun q=>p.length - q.1) (fun q=>[(3,.str p),(4,.imm (q.2.l.map r32)),(5,n64 q.1)])
  (fun q S=>q.1%64=0∧q.1≤p.length∧blocksP ((p.length - q.1) / 64) q.2 (p.drop q.1)=R∧S=[]) (0,start8) (by (repeat' (first | exact Aan | refine Aah rfl ?_))) ⟨rfl,Nat.zero_le _,hR,rfl⟩ ?_)
 rintro⟨a,v⟩ S ⟨ha,hap,hb,rfl⟩
 dsimp only at *
 refine Aab (Aab (Aad (Aaa 4 rfl (Aac ?_))))
 refine Aar rfl decide_eq_true_iff (fun h=>Aao ?_) (fun h=>AaA ?_)
 ·have hlt:((p.take (a+64)).drop a).length=64:=by simp;omega
  refine Aab ?_;refine Aak ?_;refine Aad (Aaa 4 rfl ?_);refine Aae (Aax (b:=64) rfl rfl (by omega)) rfl rfl rfl rfl ?_
  refine Aae (Ahk rfl (Aby rfl) (Aby rfl) (by omega) (by omega)) rfl rfl rfl rfl ?_
  refine Aap rfl rfl (stepR_ok _ _ hlt) rfl rfl rfl rfl rfl rfl ?_;refine Aaa 1 rfl (Aac (Aad ?_))
  refine Aaa 1 rfl ?_;refine Aae (Aax (b:=64) rfl rfl (by omega)) rfl rfl rfl rfl ?_;refine Aaa 1 rfl (Aac ?_)
  refine⟨(a+64,Alp v keyW ((p.take (a+64)).drop a)),by dsimp only;omega,by (repeat' (first | exact Aan | refine Aah rfl ?_)),by dsimp only;omega,by dsimp only;omega,?_,rfl⟩
  rw [←hb]
  dsimp only
  obtain⟨n,hn⟩:∃ n,(p.length - a) / 64=n+1:=⟨(p.length - a) / 64 - 1,by omega⟩
  rw [hn,show (p.length - (a+64)) / 64=n by omega,blocksP,List.drop_drop,List.drop_take,show a+64 - a=64 by omega]
 ·have:a=p.length:=by omega
  subst this
  rw [Nat.sub_self] at hb
  have hv:v=R:=hb
  subst hv
  refine Aab (Aad (Aaa 2 rfl (Aac (Aab (Aab (Aad ?_))))))
  refine Aaa 1 rfl (Aac ?_)
  refine Aak (AaE (σ:=Nat) (fun i=>32 - i) (fun i=>[(4,.imm (v.l.map r32)),(6,.view 0 0 32 true),(7,n64 i)])
   (fun i S=>i≤32∧S=[some ⟨1,(fillA 0 (byteOut v) 32 i).map g8r⟩]) 0 (by (repeat' (first | exact Aan | refine Aah rfl ?_))) ⟨by omega,rfl⟩ ?_)
  rintro i S ⟨hi,rfl⟩
  refine Aab (Aab (Aad (Aaa 2 rfl (Aac ?_))))
  refine Aar rfl decide_eq_true_iff (fun h=>Aao ?_) (fun h=>AaA ?_)
  ·have hi':i<32:=by omega
   refine Aab ?_;refine Aak ?_;refine Aad (Aaa 4 rfl ?_)
   refine Aae (o_quon (b:=4) rfl rfl (by omega) (Adp (by omega))) rfl rfl rfl rfl ?_
   refine Aae (Ack rfl rfl (AbI (d:=0) (by simp;omega)) rfl) rfl rfl rfl rfl ?_;refine Aaa 2 rfl ?_
   refine Aae (Acj (b:=4) rfl rfl (by omega)) rfl rfl rfl rfl ?_;refine Aae (Aey (a:=8) rfl rfl (by omega)) rfl rfl rfl rfl ?_
   refine Aae (AbQ (a:=24) rfl rfl (by omega) (by omega)) rfl rfl rfl rfl ?_;refine Aae (Aas rfl rfl (AfF _ _)) rfl rfl rfl rfl ?_
   refine Aae (Ahl rfl) rfl rfl rfl rfl ?_;refine Aae (AaP rfl rfl (by omega) rfl rfl) rfl rfl rfl rfl ?_
   refine Aae (Afs rfl rfl rfl (by simp;omega)) rfl rfl rfl rfl ?_;refine Aac (Aad (Aaa 1 rfl ?_))
   refine Aae (Aax (b:=1) rfl rfl (by omega)) rfl rfl rfl rfl ?_;refine Aaa 1 rfl (Aac ?_)
   exact⟨i+1,by omega,by (repeat' (first | exact Aan | refine Aah rfl ?_)),by omega,by rw [←Abo hi'];rfl⟩
  ·have:i=32:=by omega
   subst this
   rw [Abu,sumB_out]
   have hsl:(sumB v).length=32:=Aff _ (Ajf _) 8
   refine Aab (Aad (Aaa 1 rfl ?_));refine Aae (AhV rfl rfl (by omega)) rfl rfl rfl rfl ?_;refine Aaa 1 rfl ?_
   refine Aac ?_;exact AaD (retd rfl ⟨_,AaJ rfl⟩)
end Go.Eng.Ses
namespace Go.Eng.Ses
open Go Go.Eng
variable [Inhabited GlobT]
attribute [local irreducible] OpR TL TD TC TS Aaz shaP
def keyP (key:List UInt8):List UInt8:=if 64<key.length then shaP key else key
theorem keyP_len (key:List UInt8):(keyP key).length≤64:=by
 unfold keyP
 split
 ·rw [Ahe];decide
 ·omega
def padB (key:List UInt8) (by':BitVec 8) (i:Nat):UInt8:=UInt8.ofBitVec (((keyP key).getD i 0).toBitVec ^^^ by')
def padP (key:List UInt8) (by':BitVec 8):List UInt8:=(List.range 64).map (padB key by')
@[simp] theorem AlJ (key:List UInt8) (by':BitVec 8):(padP key by').length=64:=by simp [padP]
def hmacP (key s:List UInt8):List UInt8:=shaP (padP key 92++shaP (padP key 54++s))
theorem Afb (key s:List UInt8):(hmacP key s).length=32:=Ahe _
theorem keyed (l:List UInt8) (i:Nat) (n:Nat):(l++List.replicate n 0).getD i 0=l.getD i 0:=by
 simp only [List.getD_eq_getElem?_getD]
 rcases Nat.lt_or_ge i l.length with h | h
 ·rw [List.getElem?_append_left h]
 ·rw [List.getElem?_append_right h,List.getElem?_replicate,List.getElem?_eq_none h]
  split<;>rfl
theorem padP_def (key:List UInt8) (by':BitVec 8):(List.range 64).map (padB key by')=padP key by':=rfl
attribute [local irreducible] padP
theorem hpad_ok (key:List UInt8) (by':BitVec 8) (hk:key.length≤1000000):Aaz AP0 Akc [.str key,w8 by'] (.str (padP key by')):=by
 have hkl:=keyP_len key
 have hpl:=AlJ key by'
 refine Aav (af:=AkD) rfl rfl ?_
 refine Aab (Aad (Aaa 1 rfl (Aac (Aab (Aab (Aad ?_))))))
 refine Aaa 3 rfl (Aac ?_)
 refine AiP [(0,.str (keyP key)),(1,w8 by')] [] ?_ ?_
 ·refine Aar rfl decide_eq_true_iff (fun h=>?_) (fun h=>Aao ?_)
  ·have e:keyP key=shaP ([key].flatten):=by unfold keyP;rw [if_pos (by omega)];simp
   refine Aad (Aaa 1 rfl ?_);refine Aae (AaU rfl rfl rfl) rfl rfl rfl rfl ?_
   refine AiM rfl (Aeh (fun n=>⟨_,AjW rfl⟩) Ajn) (text_ok [key] (by simp) (by simp;omega)) rfl rfl rfl rfl rfl rfl ?_
   refine Aaa 1 rfl (Aac ?_)
   rw [e]
   exact⟨by (repeat' (first | exact Aan | refine Aah rfl ?_)),rfl⟩
  ·have e:keyP key=key:=by unfold keyP;rw [if_neg (by omega)]
   rw [e]
   exact⟨by (repeat' (first | exact Aan | refine Aah rfl ?_)),rfl⟩
 have hzl:(List.replicate 64 (0:UInt8)).length=64:=by simp
 refine Aab (Aad (Aaa 1 rfl (Aac (Aab (Aad (Aaa 2 rfl ?_))))))
 refine Aae (o_copyA (l:=List.replicate 64 0) rfl rfl rfl (by simp) (by simpa using hkl)) rfl rfl rfl rfl ?_
 have e:(List.replicate 64 (0:UInt8)).take 0++keyP key++(List.replicate 64 0).drop (0+(keyP key).length)=keyP key++List.replicate (64 - (keyP key).length) 0:=by
  rw [List.take_zero,List.nil_append,Nat.zero_add,List.drop_replicate]
 rw [e]
 obtain⟨B,hB⟩:∃ B,keyP key++List.replicate (64 - (keyP key).length) 0=B:=⟨_,rfl⟩
 have hBl:B.length=64:=by rw [←hB];simp;omega
 have hBg:∀ i,B.getD i 0=(keyP key).getD i 0:=fun i=>by rw [←hB,keyed]
 rw [hB]
 clear hB e
 refine Aac (Aab (Aab (Aad (Aaa 1 rfl (Aac ?_)))))
 refine Aak (AaE (σ:=Nat) (fun i=>64 - i) (fun i=>[(1,w8 by'),(5,.ptr 0 0 0),(16,n64 i)])
  (fun i S=>i≤64∧S=[some ⟨64,[(updA (padB key by') B i).map g8]⟩]) 0 (by (repeat' (first | exact Aan | refine Aah rfl ?_))) ⟨by omega,by rw [AlZ];rfl⟩ ?_)
 rintro i S ⟨hi,rfl⟩
 refine Aab (Aad (Aaa 1 rfl (Aac (Aab ?_))))
 refine Aar rfl decide_eq_true_iff (fun h=>Aao ?_) (fun h=>AaA ?_)
 ·have hi':i<64:=by omega
  refine Aab ?_;refine Aak ?_;refine Aab (Aad (Aaa 2 rfl (Aac (Aad ?_))))
  refine Aaa 1 rfl ?_;refine Aae (Abx rfl rfl (by omega)) rfl rfl rfl rfl ?_
  refine Aae (Abr 0 rfl rfl (by simp;omega)) rfl rfl rfl rfl ?_;refine Aaa 1 rfl ?_
  refine Aae (Aas rfl rfl (AaW _ _)) rfl rfl rfl rfl ?_;refine Aae (Abx rfl rfl (by omega)) rfl rfl rfl rfl ?_
  refine Aae (Abw rfl rfl rfl (by simp;omega)) rfl rfl rfl rfl ?_;refine Aac (Aad ?_)
  refine Aae (Aax (b:=1) rfl rfl (by omega)) rfl rfl rfl rfl ?_;refine Aaa 1 rfl (Aac ?_)
  refine⟨i+1,by omega,by (repeat' (first | exact Aan | refine Aah rfl ?_)),by omega,?_⟩
  rw [←updA_set (by omega),Ama (Nat.le_refl _) (by omega),hBg]
  rfl
 ·have:i=64:=by omega
  subst this
  rw [Amb hBl,padP_def]
  refine Aab (Aad (Aaa 1 rfl ?_));refine Aae (o_textA0 rfl rfl (by omega)) rfl rfl rfl rfl ?_;refine Aaa 1 rfl ?_
  refine Aac ?_;exact AaD (retd rfl ⟨_,AaJ rfl⟩)
theorem hmac_ok (key:List UInt8) (ss:List (List UInt8)) (hk:key.length≤1000000) (hl:ss.length≤1000000) (h:ss.flatten.length≤999900):Aaz AP0 Ahq [.str key,.imm (ss.map fun s=>[.str s])] (.str (hmacP key ss.flatten)):=by
 have e1:=text_ok [padP key 54,ss.flatten] (by simp) (by simp only [List.flatten_cons,List.flatten_nil,List.append_nil,List.length_append,AlJ];omega)
 have e2:=text_ok [padP key 92,shaP (padP key 54++ss.flatten)] (by simp) (by simp [Ahe])
 simp only [List.flatten_cons,List.flatten_nil,List.append_nil,List.map_cons,List.map_nil] at e1 e2
 have e3:hmacP key ss.flatten=shaP (padP key 92++shaP (padP key 54++ss.flatten)):=rfl
 rw [e3]
 refine Aav (af:=AkE) rfl rfl ?_
 refine Aab (Aad (Aaa 1 rfl (Aac (Aab (Aad (Aaa 1 rfl ?_))))))
 refine Aap rfl rfl (hpad_ok key 92 hk) rfl rfl rfl rfl rfl rfl ?_;refine Aaa 1 rfl ?_
 refine Aap rfl rfl (hpad_ok key 54 hk) rfl rfl rfl rfl rfl rfl ?_;refine Aaa 1 rfl ?_
 refine Aap rfl (by simp [AVal.closed,AaC,AaX,AaL,Abe]) (join_ok0 ss (by omega) hl) (by simp [AVal.noref,AVal.flat,norefL,Abn,AbZ,Acl]) rfl rfl rfl rfl rfl ?_
 refine Aae (AaU rfl rfl rfl) rfl rfl rfl rfl ?_
 refine AiM rfl (Aeh (fun n=>⟨_,AjW rfl⟩) Ajn) (e1) rfl rfl rfl rfl rfl rfl ?_
 refine Aae (AaU rfl rfl rfl) rfl rfl rfl rfl ?_
 refine AiM rfl (Aeh (fun n=>⟨_,AjW rfl⟩) Ajn) (e2) rfl rfl rfl rfl rfl rfl ?_;refine Aaa 1 rfl (Aac ?_)
 exact AaD (retd rfl ⟨_,AaJ rfl⟩)
def diffB (a b:List UInt8):Nat→BitVec 8
 | 0=>0
 | i+1=>diffB a b i ||| ((a.getD i 0).toBitVec ^^^ (b.getD i 0).toBitVec)
theorem Aht {a b:List UInt8}:∀ n,diffB a b n=0↔∀ i,i<n→a.getD i 0=b.getD i 0
 | 0=>⟨fun _ i h=>by omega,fun _=>rfl⟩
 | n+1=>by
   rw [diffB]
   constructor
   ·intro h i hi
    have h1:diffB a b n=0:=by
     apply BitVec.eq_of_getLsbD_eq;intro j hj
     have:=congrArg (·.getLsbD j) h
     simp only [BitVec.getLsbD_or,BitVec.ofNat_eq_ofNat,BitVec.getLsbD_zero,Bool.or_eq_false_iff] at this ⊢
     exact this.1
    have h2:(a.getD n 0).toBitVec ^^^ (b.getD n 0).toBitVec=0:=by
     apply BitVec.eq_of_getLsbD_eq;intro j hj
     have:=congrArg (·.getLsbD j) h
     simp only [BitVec.getLsbD_or,BitVec.ofNat_eq_ofNat,BitVec.getLsbD_zero,Bool.or_eq_false_iff] at this ⊢
     exact this.2
    rcases Nat.lt_or_ge i n with h3 | h3
    ·exact(Aht n).1 h1 i h3
    ·have:i=n:=by omega
     subst this
     have h4:(a.getD i 0).toBitVec=(b.getD i 0).toBitVec:=by simpa using BitVec.xor_eq_zero_iff.1 h2
     exact UInt8.toBitVec_inj.1 h4
   ·intro h
    rw [(Aht n).2 (fun i hi=>h i (by omega)),h n (by omega)]
    simp
theorem getD_ext {a b:List UInt8} (h:a.length=b.length) (hg:∀ i,i<a.length→a.getD i 0=b.getD i 0):a=b:=by
 apply List.ext_getElem h
 intro i h1 h2
 have:=hg i h1
 rw [List.getD_eq_getElem?_getD,List.getD_eq_getElem?_getD,List.getElem?_eq_getElem h1,List.getElem?_eq_getElem h2] at this
 exact this
theorem same_ok (a b:List UInt8) (ha:a.length≤1000000):Aaz AP0 AnB [.str a,.str b] (.bool (a == b)):=by
 refine Aav (af:=AiB) rfl rfl ?_
 refine Aab (Aad (Aaa 1 rfl (Aac (Aab (Aab (Aad ?_))))))
 refine Aaa 5 rfl (Aac ?_)
 refine Aar rfl bne_iff_ne (fun h=>?_) (fun h=>Aao ?_)
 ·have e:(a == b)=false:=by rw [beq_eq_false_iff_ne];rintro rfl;exact h rfl
  rw [e]
  refine Aab (Aad (Aaa 1 rfl (Aac ?_)));exact AaD (retd rfl ⟨_,AaJ rfl⟩)
 ·have hl:a.length=b.length:=by omega
  refine Aab (Aad (Aaa 1 rfl (Aac (Aab (Aab (Aad ?_))))))
  refine Aaa 3 rfl (Aac ?_)
  refine Aak (AaE (σ:=Nat) (fun i=>a.length - i) (fun i=>[(0,.str a),(1,.str b),(5,w8 (diffB a b i)),(13,n64 a.length),(14,n64 i)])
   (fun i S=>i≤a.length∧S=[]) 0 (by (repeat' (first | exact Aan | refine Aah rfl ?_))) ⟨by omega,rfl⟩ ?_)
  rintro i S ⟨hi,rfl⟩
  refine Aab (Aad (Aaa 1 rfl (Aac (Aab ?_))))
  refine Aar rfl decide_eq_true_iff (fun h=>Aao ?_) (fun h=>AaA ?_)
  ·have hi':i<a.length:=by omega
   have hi2:i<b.length:=by omega
   refine Aab ?_;refine Aak ?_;refine Aab (Aad (Aaa 2 rfl (Aac ?_)));refine AaH rfl ?_
   refine Aal 3 rfl ?_;refine Aai rfl rfl (Adt rfl rfl (by omega)) ?_;refine Aal 2 rfl ?_;refine Aai rfl rfl (Adt rfl rfl (by omega)) ?_
   refine Aai rfl rfl (Aas rfl rfl (AaW _ _)) ?_;refine Aai rfl rfl (Aas rfl rfl (bor_u8 _ _)) ?_;refine Aal 1 rfl (AaQ ?_)
   refine⟨rfl,?_⟩;refine Aad ?_;refine Aae (Aax (b:=1) rfl rfl (by omega)) rfl rfl rfl rfl ?_;refine Aaa 1 rfl (Aac ?_)
   refine⟨i+1,by omega,?_,by omega,rfl⟩
   have e:diffB a b (i+1)=diffB a b i ||| (a[i].toBitVec ^^^ b[i].toBitVec):=by
    rw [diffB,List.getD_eq_getElem?_getD,List.getD_eq_getElem?_getD,List.getElem?_eq_getElem hi',List.getElem?_eq_getElem hi2];rfl
   rw [e];(repeat' (first | exact Aan | refine Aah rfl ?_))
  ·have:i=a.length:=by omega
   subst this
   refine Aab (Aad (Aaa 3 rfl (Aac ?_)))
   have e:(((diffB a b a.length).toNat:Int) == 0)=(a == b):=by
    rw [Bool.eq_iff_iff]
    simp only [beq_iff_eq]
    constructor
    ·intro h
     have:diffB a b a.length=0:=BitVec.eq_of_toNat_eq (by simpa using h)
     exact getD_ext hl ((Aht _).1 this)
    ·rintro rfl
     rw [(Aht _).2 (fun _ _=>rfl)];rfl
   rw [e]
   exact AaD (retd rfl ⟨_,AaJ rfl⟩)
end Go.Eng.Ses
namespace Go.Eng.Ses
open Go Go.Eng
variable [Inhabited GlobT]
attribute [local irreducible] OpR TL TD TC TS Aaz shaP hmacP padP
def deriveP (key label:List UInt8) (n:Nat):List UInt8:=(hmacP key (label++[1])).take n
theorem Aif (key label:List UInt8) (n:Nat) (h:n≤32):(deriveP key label n).length=n:=by
 simp [deriveP,Afb];omega
theorem derive_ok (key label:List UInt8) (n:Nat) (h0:0<n) (hn:n≤32) (hk:key.length≤100000) (hl:label.length≤1000):Aaz AP0 Afy [.str key,.str label,n64 n] (.tuple [.str (deriveP key label n),n64 0]):=by
 have e1:=hmac_ok key [[],label,[1]] (by omega) (by simp) (by simp;omega)
 simp only [List.flatten_cons,List.flatten_nil,List.append_nil,List.nil_append,List.map_cons,List.map_nil] at e1
 have hhl:=Afb key (label++[1])
 refine Aav (af:=AfC) rfl rfl ?_
 refine Aab (Aad (Aaa 2 rfl (Aac (Aab (Aab (Aad ?_))))))
 refine Aaa 3 rfl ?_
 (focus refine Aet 13 rfl decide_eq_true_iff (fun c1=>?_) (fun c1=>?_);rotate_left 1;(focus refine Aaa 3 rfl (Aac ?_);(focus refine Aar rfl decide_eq_true_iff (fun c2=>?_) (fun c2=>?_);rotate_left 1;(focus refine Aao (Aab (Aad (Aaa 2 rfl (Aac (Aab (Aab (Aad (Aaa 1 rfl (Aac ?_))))))))));rotate_left 1;(focus (exfalso;omega))));rotate_left 1;(focus (exfalso;omega)))
 refine Aak (Acd ?_)
 refine Aab (Aab (Aad (Aaa 4 rfl (Aac ?_))))
 (focus refine Aar rfl decide_eq_true_iff (fun c1=>?_) (fun c1=>?_);rotate_left 1;(focus (exfalso;simp at c1;omega));(focus refine Aao (Aab ?_);refine Aak ?_;refine Aab (Aad (Aaa 4 rfl ?_));refine Aae (AaU rfl rfl rfl) rfl rfl rfl rfl ?_;refine Aaa 1 rfl ?_;refine Aae (AaU rfl rfl rfl) rfl rfl rfl rfl ?_;refine AiM rfl (Aeh (fun n=>⟨_,AaJ rfl⟩) (Aeh (fun n=>⟨_,AjW rfl⟩) Ajn)) (e1) rfl rfl rfl rfl rfl rfl ?_;refine Aaa 1 rfl (Aac (Aad (Aaa 2 rfl ?_)));refine Aae (AdD rfl rfl (by omega)) rfl rfl rfl rfl ?_;refine Aaa 1 rfl (Aac (Aad (Aaa 1 rfl ?_)));refine Aae (Aas (v := .int .u8 2) rfl rfl rfl) rfl rfl rfl rfl ?_;refine Aaa 1 rfl (Aac ?_)))
 rw [List.nil_append]
 refine Acd ?_
 refine Aab (Aab (Aad (Aaa 4 rfl (Aac ?_))))
 (focus refine Aar rfl decide_eq_true_iff (fun c1=>?_) (fun c1=>?_);rotate_left 1;(focus refine AaA ?_;refine Aab (Aad (Aaa 2 rfl ?_));refine Aae (Aft rfl rfl (by omega)) rfl rfl rfl rfl ?_;refine Aaa 2 rfl (Aac ?_);exact AaD (retd rfl ⟨_,AaJ rfl⟩));(focus (exfalso;omega)))
theorem sumR_ok (key s:List UInt8) (hk:key.length≤100000) (hs:s.length≤900000):Aaz AP0 Anz [.str key,.str s] (.str (hmacP key s)):=by
 have hkl:=keyP_len key
 have e1:=Text_ok (padP key 54++s) (by simp;omega)
 have e2:=Text_ok (padP key 92++shaP (padP key 54++s)) (by simp [Ahe])
 have hsl:=Ahe (padP key 54++s)
 have e3:hmacP key s=shaP (padP key 92++shaP (padP key 54++s)):=by unfold hmacP;rfl
 have hp1:=AlJ key 54
 have hp2:=AlJ key 92
 rw [e3]
 refine Aav (af:=c_r04_Sum) rfl rfl ?_
 refine Aab (Aad (Aaa 1 rfl (Aac (Aab (Aab (Aad ?_))))))
 refine Aaa 3 rfl (Aac ?_)
 refine AiP [(0,.str (keyP key)),(1,.str s)] [] ?_ ?_
 ·refine Aar rfl decide_eq_true_iff (fun h=>?_) (fun h=>Aao ?_)
  ·have e:keyP key=shaP key:=by unfold keyP;rw [if_pos (by omega)]
   refine Aad (Aaa 1 rfl ?_);refine Aap rfl rfl (Text_ok key (by omega)) rfl rfl rfl rfl rfl rfl ?_;refine Aaa 1 rfl ?_
   refine Aac ?_
   rw [e]
   exact⟨by (repeat' (first | exact Aan | refine Aah rfl ?_)),rfl⟩
  ·have e:keyP key=key:=by unfold keyP;rw [if_neg (by omega)]
   rw [e]
   exact⟨by (repeat' (first | exact Aan | refine Aah rfl ?_)),rfl⟩
 refine Aab ?_;refine AdK [none,none] rfl ?_;refine Aal 4 rfl (AaQ ?_);refine⟨rfl,?_⟩;refine Aab (Aab ?_)
 refine Aad (Aaa 1 rfl (Aac ?_))
 refine Aak (AaE (σ:=Nat) (fun i=>64 - i) (fun i=>[(0,.str (keyP key)),(1,.str s),(5,.view 0 0 64 true),(6,.view 1 0 64 true),(7,n64 i)])
  (fun i S=>i≤64∧S=[some ⟨1,(fillA 0 (padB key 54) 64 i).map g8r⟩,some ⟨1,(fillA 0 (padB key 92) 64 i).map g8r⟩]) 0 (by (repeat' (first | exact Aan | refine Aah rfl ?_))) ⟨by omega,rfl⟩ ?_)
 rintro i S ⟨hi,rfl⟩
 refine Aab (Aab (Aad (Aaa 2 rfl (Aac ?_))))
 refine Aar rfl decide_eq_true_iff (fun h=>Aao ?_) (fun h=>AaA ?_)
 ·have hi':i<64:=by omega
  refine Aab ?_;refine Aak ?_;refine Aab (Aad (Aaa 1 rfl (Aac (Aab (Aab ?_)))))
  refine Aad (Aaa 4 rfl (Aac ?_))
  refine AiP [(0,.str (keyP key)),(1,.str s),(5,.view 0 0 64 true),(6,.view 1 0 64 true),(7,n64 i),(8,.int .u8 (((keyP key).getD i 0).toNat:Int))] [some ⟨1,(fillA 0 (padB key 54) 64 i).map g8r⟩,some ⟨1,(fillA 0 (padB key 92) 64 i).map g8r⟩] ?_ ?_
  ·refine Aar rfl decide_eq_true_iff (fun h=>?_) (fun h=>Aao ?_)
   ·refine Aad (Aaa 2 rfl ?_);refine Aae (Adt rfl rfl (by omega)) rfl rfl rfl rfl ?_;refine Aaa 1 rfl (Aac ?_)
    refine⟨?_,rfl⟩
    rw [List.getD_eq_getElem?_getD,List.getElem?_eq_getElem (by omega)]
    (repeat' (first | exact Aan | refine Aah rfl ?_))
   ·refine⟨?_,rfl⟩
    rw [List.getD_eq_getElem?_getD,List.getElem?_eq_none (by omega)]
    (repeat' (first | exact Aan | refine Aah rfl ?_))
  refine Aab (Aad (Aaa 3 rfl ?_));refine Aae (Aas rfl rfl (AaW _ (54#8))) rfl rfl rfl rfl ?_
  refine Aae (AaP rfl rfl (by omega) rfl rfl) rfl rfl rfl rfl ?_;refine Aae (Afs rfl rfl rfl (by simp;omega)) rfl rfl rfl rfl ?_
  refine Aac (Aad (Aaa 3 rfl ?_));refine Aae (Aas rfl rfl (AaW _ (92#8))) rfl rfl rfl rfl ?_
  refine Aae (AaP rfl rfl (by omega) rfl rfl) rfl rfl rfl rfl ?_;refine Aae (Afs rfl rfl rfl (by simp;omega)) rfl rfl rfl rfl ?_
  refine Aac (Aad (Aaa 1 rfl ?_));refine Aae (Aax (b:=1) rfl rfl (by omega)) rfl rfl rfl rfl ?_
  refine Aaa 1 rfl (Aac ?_)
  refine⟨i+1,by omega,by (repeat' (first | exact Aan | refine Aah rfl ?_)),by omega,?_⟩
  rw [←Abo hi',←Abo hi']
  rfl
 ·have:i=64:=by omega
  subst this
  rw [Abu,Abu,padP_def,padP_def]
  refine Aab ?_;refine Aeu ?_;refine Aes rfl ?_;refine Aal 1 rfl ?_;refine Aai rfl rfl (AhV rfl rfl (by omega)) ?_
  refine Aal 1 rfl ?_;refine Aai rfl rfl (AhV rfl rfl (by omega)) ?_;refine Aal 1 rfl ?_;refine Aai rfl rfl (AdD rfl rfl (by omega)) ?_
  refine AaS rfl rfl (e1) rfl rfl rfl rfl rfl ?_;refine AaQ ?_;refine⟨rfl,?_⟩;refine AcF ?_
  refine Aae (AdD rfl rfl (by omega)) rfl rfl rfl rfl ?_;refine Aac ?_;refine AcF ?_;refine Aap rfl rfl (e2) rfl rfl rfl rfl rfl rfl ?_
  refine Aac ?_;refine AcF ?_;refine Aaa 1 rfl (Aac ?_);refine AkO ?_;exact AaD (retd rfl ⟨_,AaJ rfl⟩)
theorem deriveR_ok (key label:List UInt8) (n:Nat) (h0:0<n) (hn:n≤32) (hk:key.length≤100000) (hl:label.length≤1000):Aaz AP0 AgB [.str key,.str label,n64 n] (.str (deriveP key label n)):=by
 have e1:=sumR_ok key (label++[1]) (by omega) (by simp;omega)
 have hhl:=Afb key (label++[1])
 refine Aav (af:=AgV) rfl rfl ?_
 refine Aab (Aad (Aaa 1 rfl (Aac (Aab (Aad (Aaa 2 rfl ?_))))))
 refine Aac (Aab (Aab (Aad (Aaa 1 rfl (Aac ?_)))))
 refine Aak (Acd ?_)
 refine Aab (Aab (Aad (Aaa 4 rfl (Aac ?_))))
 (focus refine Aar rfl decide_eq_true_iff (fun c1=>?_) (fun c1=>?_);rotate_left 1;(focus (exfalso;simp at c1;omega));(focus refine Aao (Aab ?_);refine Aak ?_;refine Aab (Aad (Aaa 3 rfl ?_));refine Aae (AdD rfl rfl (by omega)) rfl rfl rfl rfl ?_;refine Aaa 1 rfl ?_;refine Aae (Ang (r:=1) rfl (by decide)) rfl rfl rfl rfl ?_;refine Aae (AaU rfl rfl rfl) rfl rfl rfl rfl ?_;refine Aaa 1 rfl ?_;refine Aae (AdD rfl rfl (by simp;omega)) rfl rfl rfl rfl ?_;refine Aap rfl rfl (e1) rfl rfl rfl rfl rfl rfl ?_;refine Aaa 1 rfl (Aac (Aad (Aaa 2 rfl ?_)));refine Aae (AdD rfl rfl (by omega)) rfl rfl rfl rfl ?_;refine Aaa 1 rfl (Aac (Aad (Aaa 1 rfl ?_)));refine Aae (Aas (v := .int .i64 2) rfl rfl rfl) rfl rfl rfl rfl ?_;refine Aaa 1 rfl (Aac ?_)))
 rw [List.nil_append]
 refine Acd ?_
 refine Aab (Aab (Aad (Aaa 4 rfl (Aac ?_))))
 (focus refine Aar rfl decide_eq_true_iff (fun c1=>?_) (fun c1=>?_);rotate_left 1;(focus refine AaA ?_;refine Aab (Aad (Aaa 2 rfl ?_));refine Aae (Aft rfl rfl (by omega)) rfl rfl rfl rfl ?_;refine Aaa 1 rfl (Aac ?_);exact AaD (retd rfl ⟨_,AaJ rfl⟩));(focus (exfalso;omega)))
end Go.Eng.Ses
