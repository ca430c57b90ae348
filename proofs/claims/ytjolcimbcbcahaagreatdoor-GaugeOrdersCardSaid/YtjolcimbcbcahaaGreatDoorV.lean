/- Floating-point numbers in order; rounding; no condition. -/
import Derived.Test.YtjolcimbcbcahaaGreatDoorE1
import Derived.Test.YtjolcimbcbcahaaGreatDoorE4
set_option linter.unusedSectionVars false
set_option linter.unusedVariables false
set_option linter.unusedSimpArgs false
set_option linter.unnecessarySimpa false
namespace Go.Eng
open Go Ieee
theorem Aoy (s:Bool) (m a b:Nat):signed s m (a+b)=signed s m a*((2^b:Nat):Int):=by
 have h:m <<< (a+b)=m <<< a*2^b:=by
  rw [Nat.shiftLeft_eq,Nat.shiftLeft_eq,Nat.pow_add,Nat.mul_assoc]
 cases s
 ·simp only [signed,Bool.false_eq_true,if_false]
  rw [h];push_cast;rfl
 ·simp only [signed,if_true]
  rw [h];push_cast;rw [Int.neg_mul]
theorem Ayc (x y:Int) (c:Nat) (hc:0<c):compare (x*(c:Int)) (y*(c:Int))=compare x y:=by
 have hc':(0:Int)<c:=by exact_mod_cast hc
 rcases Int.lt_trichotomy x y with h | h | h
 ·rw [Int.compare_eq_lt.2 h,Int.compare_eq_lt.2 (Int.mul_lt_mul_of_pos_right h hc')]
 ·subst h;simp
 ·rw [Int.compare_eq_gt.2 h,Int.compare_eq_gt.2 (Int.mul_lt_mul_of_pos_right h hc')]
def fval (s:Bool) (m:Nat) (i:Int):Int:=signed s m (i+1100).toNat
theorem order_val {s t:Bool} {m n:Nat} {i j:Int} (hi : -1100≤i) (hj : -1100≤j) :
 Datum.order (.number s m i) (.number t n j)=some (compare (fval s m i) (fval t n j)):=by
 have hb : -1100≤min i j:=by omega
 have e1:(i+1100).toNat=(i - min i j).toNat+(min i j+1100).toNat:=by omega
 have e2:(j+1100).toNat=(j - min i j).toNat+(min i j+1100).toNat:=by omega
 simp only [Datum.order,fval]
 rw [e1,e2,Aoy,Aoy,Ayc _ _ _ (Nat.two_pow_pos _)]
theorem read_num {w m:Nat} {s:Bool} {i:Int} (h:Format.read double w = .number s m i) : -1074≤i∧i≤1000∧m<2^53:=by
 have hb:double.binade=4503599627370496:=by decide
 have hl:double.leastPlace = -1074:=by decide
 have hf:double.infRung=9218868437227405312:=by decide
 unfold Format.read at h
 simp only [hb,hl,hf] at h
 split at h
 ·cases h;exact⟨by omega,by omega,by omega⟩
 ·split at h
  ·rename_i h1 h2
   cases h
   refine⟨by omega,?_,by omega⟩
   generalize w%double.signWeight=r at h1 h2 ⊢
   omega
  ·split at h<;>cases h
theorem AwD (m:Nat) (i:Int):fval false m i=((m*2^(i+1100).toNat:Nat):Int):=by
 unfold fval
 generalize (i+1100).toNat=k
 simp only [signed,Bool.false_eq_true,if_false,Nat.shiftLeft_eq]
theorem fval_neg {m:Nat} {i:Int}:fval true m i = - fval false m i:=by
 unfold fval
 generalize (i+1100).toNat=k
 simp [signed]
end Go.Eng
namespace Go.Eng
open Go Ieee
def infR:Nat:=9218868437227405312
def fS (w:Nat):Bool:=decide (9223372036854775808≤w)
def fR (w:Nat):Nat:=w%9223372036854775808
def fN (w:Nat):Bool:=decide (infR<fR w)
def fK (w:Nat):Int:=if fS w then -(fR w:Int) else (fR w:Int)
def fT (w:Nat):Int:=if fN w then -18446744073709551616 else if fS w then -(fR w:Int) - 1 else (fR w:Int)
theorem fR_lt (w:Nat):fR w<9223372036854775808:=Nat.mod_lt _ (by omega)
def rmag (r:Nat):Nat:=if r<4503599627370496 then r*2^26 else (4503599627370496+r%4503599627370496)*2^(r / 4503599627370496+25)
theorem Afp {a b:Nat} (h:a<b):rmag a<rmag b:=by
 unfold rmag
 by_cases h1:b<4503599627370496
 ·rw [if_pos (by omega),if_pos h1]
  exact Nat.mul_lt_mul_of_pos_right h (Nat.two_pow_pos _)
 ·rw [if_neg h1]
  have e1:1≤b / 4503599627370496:=by omega
  by_cases h2:a<4503599627370496
  ·rw [if_pos h2]
   have h3:a*2^26<4503599627370496*2^26:=Nat.mul_lt_mul_of_pos_right h2 (Nat.two_pow_pos _)
   have h4:(2:Nat)^26≤2^(b / 4503599627370496+25):=Nat.pow_le_pow_right (by omega) (by omega)
   have h5:4503599627370496*2^26≤(4503599627370496+b%4503599627370496)*2^(b / 4503599627370496+25):=Nat.mul_le_mul (by omega) h4
   omega
  ·rw [if_neg h2]
   rcases Nat.lt_or_ge (a / 4503599627370496) (b / 4503599627370496) with h3 | h3
   ·have h4:(4503599627370496+a%4503599627370496)*2^(a / 4503599627370496+25)<(2*4503599627370496)*2^(a / 4503599627370496+25) :=
     Nat.mul_lt_mul_of_pos_right (by omega) (Nat.two_pow_pos _)
    have h5:(2*4503599627370496)*2^(a / 4503599627370496+25)=4503599627370496*2^(a / 4503599627370496+1+25):=by
     rw [show a / 4503599627370496+1+25=(a / 4503599627370496+25)+1 by omega]
     generalize a / 4503599627370496+25=k
     rw [Nat.pow_succ]
     omega
    have h6:(2:Nat)^(a / 4503599627370496+1+25)≤2^(b / 4503599627370496+25):=Nat.pow_le_pow_right (by omega) (by omega)
    have h7:4503599627370496*2^(a / 4503599627370496+1+25)≤(4503599627370496+b%4503599627370496)*2^(b / 4503599627370496+25):=Nat.mul_le_mul (by omega) h6
    omega
   ·have h4:a / 4503599627370496=b / 4503599627370496:=by omega
    rw [h4]
    exact Nat.mul_lt_mul_of_pos_right (by omega) (Nat.two_pow_pos _)
theorem AlW:rmag 0=0:=rfl
theorem Aif (a b:Nat):(rmag a<rmag b↔a<b)∧(rmag a=rmag b↔a=b):=by
 rcases Nat.lt_trichotomy a b with h | h | h
 ·have:=Afp h;exact⟨by omega,by omega⟩
 ·subst h;exact⟨by omega,by omega⟩
 ·have:=Afp h;exact⟨by omega,by omega⟩
inductive RdOf (w:Nat):Datum→Prop
 | nan {s f}:fN w=true→RdOf w (.nan s f)
 | inf:fN w=false→fR w=infR→RdOf w (.infinity (fS w))
 | num {m i}:fN w=false→fR w<infR → -1100≤i→fval false m i=(rmag (fR w):Int)→RdOf w (.number (fS w) m i)
theorem rd_of {w:Nat} (hw:w<18446744073709551616):RdOf w (Format.read double w):=by
 have hb:double.binade=4503599627370496:=by decide
 have hl:double.leastPlace = -1074:=by decide
 have hf:double.infRung=9218868437227405312:=by decide
 have hs:double.signWeight=9223372036854775808:=by decide
 have hsg:(w / 9223372036854775808%2 == 1)=fS w:=by
  unfold fS
  rcases Nat.lt_or_ge w 9223372036854775808 with h | h
  ·rw [show w / 9223372036854775808%2=0 by omega];simp;omega
  ·rw [show w / 9223372036854775808%2=1 by omega];simp [h]
 unfold Format.read
 simp only [hb,hl,hf,hs,hsg]
 have hR:w%9223372036854775808=fR w:=rfl
 rw [hR]
 split
 ·rename_i h
  refine .num ?_ (by unfold infR;omega) (by omega) ?_
  ·unfold fN infR;simp;omega
  ·rw [AwD];unfold rmag;rw [if_pos h];rfl
 ·rename_i h
  split
  ·rename_i h2
   refine .num ?_ (by unfold infR;omega) (by omega) ?_
   ·unfold fN infR;simp;omega
   ·rw [AwD];unfold rmag;rw [if_neg h]
    have:(-1074+((fR w / 4503599627370496 - 1:Nat):Int)+1100).toNat=fR w / 4503599627370496+25:=by omega
    rw [this]
  ·rename_i h2
   split
   ·rename_i h3
    refine .inf ?_ h3
    unfold fN infR;simp;omega
   ·rename_i h3
    refine .nan ?_
    unfold fN infR;simp;omega
theorem ArL (a b:Nat) (s t:Bool) :
 compare (if s then -(rmag a:Int) else (rmag a:Int)) (if t then -(rmag b:Int) else (rmag b:Int))=compare (if s then -(a:Int) else (a:Int)) (if t then -(b:Int) else (b:Int)):=by
 obtain⟨h1,h2⟩:=Aif a b
 obtain⟨h3,h4⟩:=Aif b a
 obtain⟨z1,z2⟩:=Aif 0 a
 obtain⟨z3,z4⟩:=Aif 0 b
 rw [AlW] at z1 z2 z3 z4
 generalize rmag a=A at *
 generalize rmag b=B at *
 have key:∀ x y x' y':Int,((x<y↔x'<y')∧(x=y↔x'=y'))→compare x y=compare x' y':=by
  intro x y x' y' ⟨p,q⟩
  rcases Int.lt_trichotomy x' y' with h | h | h
  ·rw [Int.compare_eq_lt.2 h,Int.compare_eq_lt.2 (p.2 h)]
  ·rw [Int.compare_eq_eq.2 h,Int.compare_eq_eq.2 (q.2 h)]
  ·rw [Int.compare_eq_gt.2 h,Int.compare_eq_gt.2 (by omega)]
 refine key _ _ _ _ ?_
 cases s<;>cases t<;>simp<;>omega
theorem AmK (a b:Nat) (ha:a<18446744073709551616) (hb:b<18446744073709551616) :
 FloatKind.f64.format.order a b=if fN a || fN b then none else some (compare (fK a) (fK b)):=by
 show (Format.read double a).order (Format.read double b)=_
 have hA:=rd_of ha
 have hB:=rd_of hb
 have fv:∀ s m i,fval s m i=if s then - fval false m i else fval false m i:=by
  intro s m i;cases s
  ·rfl
  ·exact fval_neg
 generalize Format.read double a=x at hA
 generalize Format.read double b=y at hB
 cases hA with
 | nan h=>rw [h];cases hB<;>rfl
 | inf h h' =>
   rw [h]
   cases hB with
   | nan g=>rw [g];rfl
   | inf g g' =>
     rw [g]
     simp only [Bool.or_self,Bool.false_eq_true,if_false,Datum.order,fK,h',g']
     cases fS a<;>cases fS b<;>rfl
   | num g g' =>
     rw [g]
     simp only [Bool.or_self,Bool.false_eq_true,if_false,Datum.order,fK,h']
     cases fS a
     ·simp only [Bool.false_eq_true,if_false]
      rw [Int.compare_eq_gt.2 (by split<;>omega)]
     ·simp only [if_true]
      rw [Int.compare_eq_lt.2 (by split<;>omega)]
 | num h h' hi hv =>
   rw [h]
   cases hB with
   | nan g=>rw [g];rfl
   | inf g g' =>
     rw [g]
     simp only [Bool.or_self,Bool.false_eq_true,if_false,Datum.order,fK,g']
     cases fS b
     ·simp only [Bool.false_eq_true,if_false]
      rw [Int.compare_eq_lt.2 (by split<;>omega)]
     ·simp only [if_true]
      rw [Int.compare_eq_gt.2 (by split<;>omega)]
   | num g g' gi gv =>
     rw [g,order_val (by omega) (by omega),fv,fv (fS b),hv,gv,ArL]
     rfl
theorem Ayh (x y:Int):(compare x y == .lt)=decide (x<y)∧(compare x y == .eq)=decide (x=y)∧(compare x y == .gt)=decide (y<x):=by
 rcases Int.lt_trichotomy x y with h | h | h
 ·rw [Int.compare_eq_lt.2 h,decide_eq_true h,decide_eq_false (by omega),decide_eq_false (by omega)]
  exact⟨rfl,rfl,rfl⟩
 ·rw [Int.compare_eq_eq.2 h,decide_eq_true h,decide_eq_false (by omega),decide_eq_false (by omega)]
  exact⟨rfl,rfl,rfl⟩
 ·rw [Int.compare_eq_gt.2 h,decide_eq_true h,decide_eq_false (by omega),decide_eq_false (by omega)]
  exact⟨rfl,rfl,rfl⟩
theorem fo_lt {a b:Nat} (ha:a<18446744073709551616) (hb:b<18446744073709551616) :
 (FloatKind.f64.format.order a b == some .lt)=(!fN a && !fN b && decide (fK a<fK b)):=by
 rw [AmK a b ha hb]
 cases fN a<;>cases fN b<;>simp
 exact(Ayh _ _).1
theorem Bbd {a b:Nat} (ha:a<18446744073709551616) (hb:b<18446744073709551616) :
 (FloatKind.f64.format.order a b == some .gt)=(!fN a && !fN b && decide (fK b<fK a)):=by
 rw [AmK a b ha hb]
 cases fN a<;>cases fN b<;>simp
 exact(Ayh _ _).2.2
theorem fo_eq {a b:Nat} (ha:a<18446744073709551616) (hb:b<18446744073709551616) :
 (FloatKind.f64.format.order a b == some .eq)=(!fN a && !fN b && decide (fK a=fK b)):=by
 rw [AmK a b ha hb]
 cases fN a<;>cases fN b<;>simp
 exact(Ayh _ _).2.1
theorem fo_ne {a b:Nat} (ha:a<18446744073709551616) (hb:b<18446744073709551616) :
 (FloatKind.f64.format.order a b != some .eq)=(fN a || fN b || decide (fK a≠fK b)):=by
 have:=fo_eq ha hb
 rw [bne,this]
 cases fN a<;>cases fN b<;>simp
end Go.Eng
namespace Go.Eng
open Go Ieee
theorem AzP (neg:Bool) (n d:Nat) (hn:n≠0) :
 ∃ low rest,n=2^d*low+rest∧rest<2^d∧Toward.even.cut neg n d=low+(decide (2^d<2*rest) || (decide (2^d=2*rest) && decide (low%2=1))).toNat:=by
 have hL:=(Nat.log2_eq_iff (n:=n) (k:=n.log2) hn).1 rfl
 rcases Nat.lt_or_ge (n.log2+2) d with h | h
 ·
  have h1:n<2^(n.log2+1):=hL.2
  have h2:(2:Nat)^(n.log2+2)=2*2^(n.log2+1):=by rw [Nat.pow_succ];omega
  have h3:(2:Nat)^(n.log2+2)≤2^d:=Nat.pow_le_pow_right (by omega) (by omega)
  refine⟨0,n,by omega,by omega,?_⟩
  unfold Toward.cut
  simp only [Nat.min_eq_right (Nat.le_of_lt h),Nat.shiftLeft_eq,Nat.one_mul]
  rw [Nat.div_eq_of_lt (by omega),Nat.mod_eq_of_lt (by omega)]
  rw [decide_eq_false (by omega),decide_eq_false (by omega),decide_eq_false (by omega)]
  have:((2^(n.log2+2):Nat) == 2*n)=false:=by simp;omega
  rw [this]
  rfl
 ·refine⟨n / 2^d,n%2^d,(Nat.div_add_mod n (2^d)).symm,Nat.mod_lt _ (Nat.two_pow_pos _),?_⟩
  unfold Toward.cut
  simp only [Nat.min_eq_left h,Nat.shiftLeft_eq,Nat.one_mul]
  congr 2
def rraw (mag:Nat) (place:Int):Nat :=
 let last:=max (place+mag.log2 - 52) (-1074)
 (last+1074).toNat*4503599627370496+Toward.even.cut false (mag <<< (place - last).toNat) (last - place).toNat
def rnd (mag:Nat) (place:Int):Nat:=if mag=0 then 0 else min (rraw mag place) infR
theorem BaS (neg:Bool) (mag:Nat) (place:Int):Format.nearest double neg mag place=if neg then 9223372036854775808+rnd mag place else rnd mag place:=by
 have hb:double.binade=4503599627370496:=by decide
 have hl:double.leastPlace = -1074:=by decide
 have hf:double.infRung=9218868437227405312:=by decide
 have hs:double.signWeight=9223372036854775808:=by decide
 have hfb:(double.fractionBits:Int)=52:=by decide
 unfold Format.nearest rnd
 by_cases h:mag=0
 ·rw [if_pos h,if_pos h]
  unfold Format.word;rw [hs]
 ·rw [if_neg h,if_neg h]
  simp only [hb,hl,hf,hfb]
  unfold Format.word;rw [hs]
  have e:∀ n d,Toward.even.cut neg n d=Toward.even.cut false n d:=fun n d=>rfl
  rw [e]
  rfl
theorem Aie (k e:Nat) (h:k≤9007199254740992) (h2:e=0∨4503599627370496≤k):rmag (e*4503599627370496+k)=k*2^(e+26):=by
 unfold rmag
 by_cases h1:e*4503599627370496+k<4503599627370496
 ·rw [if_pos h1]
  have:e=0:=by omega
  subst this
  simp
 ·rw [if_neg h1]
  by_cases h3:k=9007199254740992
  ·subst h3
   have e1:(e*4503599627370496+9007199254740992)%4503599627370496=0:=by omega
   have e2:(e*4503599627370496+9007199254740992) / 4503599627370496=e+2:=by omega
   rw [e1,e2,show e+2+25=(e+26)+1 by omega]
   generalize e+26=q
   rw [Nat.pow_succ];omega
  ·have e1:4503599627370496+(e*4503599627370496+k)%4503599627370496=k:=by omega
   have e2:(e*4503599627370496+k) / 4503599627370496=e+1:=by omega
   rw [e1,e2]
structure AgF (U:Nat) (v R:Nat):Prop where
 up:2*v≤rmag R*2^U+rmag (R+1)*2^U
 upe:2*v=rmag R*2^U+rmag (R+1)*2^U→R%2=0
 dn:R≠0→rmag (R - 1)*2^U+rmag R*2^U≤2*v
 dne:R≠0→rmag (R - 1)*2^U+rmag R*2^U=2*v→R%2=0
theorem AgF.mono {U v v' R R':Nat} (h:AgF U v R) (h':AgF U v' R') (hv:v≤v'):R≤R':=by
 refine Classical.byContradiction fun hn=>?_
 have hlt:R'<R:=by omega
 have p:=Nat.two_pow_pos U
 have m1:rmag R'*2^U≤rmag (R - 1)*2^U:=by
  refine Nat.mul_le_mul_right _ ?_
  rcases Nat.lt_or_ge R' (R - 1) with g | g
  ·exact Nat.le_of_lt (Afp g)
  ·have:R'=R - 1:=by omega
   rw [this];exact Nat.le_refl _
 have m2:rmag (R'+1)*2^U≤rmag R*2^U:=by
  refine Nat.mul_le_mul_right _ ?_
  rcases Nat.lt_or_ge (R'+1) R with g | g
  ·exact Nat.le_of_lt (Afp g)
  ·have:R'+1=R:=by omega
   rw [this];exact Nat.le_refl _
 have a1:=h'.up
 have a2:=h.dn (by omega)
 have e1:2*v'=rmag R'*2^U+rmag (R'+1)*2^U:=by omega
 have e2:rmag (R - 1)*2^U+rmag R*2^U=2*v:=by omega
 have e3:rmag R'*2^U=rmag (R - 1)*2^U:=by omega
 have e4:rmag R'=rmag (R - 1):=Nat.eq_of_mul_eq_mul_right p e3
 have e5:R'=R - 1:=(Aif _ _).2.1 e4
 have b1:=h'.upe e1
 have b2:=h.dne (by omega) e2
 omega
theorem AgF.exact {U:Nat} (R:Nat):AgF U (rmag R*2^U) R:=by
 have p:=Nat.two_pow_pos U
 have h1:rmag R*2^U<rmag (R+1)*2^U:=Nat.mul_lt_mul_of_pos_right (Afp (by omega)) p
 refine⟨by omega,by omega,fun h=>?_,fun h=>?_⟩
 ·have h2:rmag (R - 1)*2^U<rmag R*2^U:=Nat.mul_lt_mul_of_pos_right (Afp (by omega)) p
  omega
 ·have h2:rmag (R - 1)*2^U<rmag R*2^U:=Nat.mul_lt_mul_of_pos_right (Afp (by omega)) p
  omega
end Go.Eng
namespace Go.Eng
open Go Ieee
theorem Asy {U v k e:Nat} (h2:k≤9007199254740992) (h3:e=0∨4503599627370496≤k)
 (u:Nat) (hu:u=2^(e+26)*2^U)
 (v1:2*v≤2*(k*u)+u) (v1e:2*v=2*(k*u)+u→k%2=0)
 (v2:2*(k*u)≤2*v+u) (v2e:2*(k*u)=2*v+u→k%2=0) (v3:e≠0→4503599627370496*u≤v) :
 AgF U v (e*4503599627370496+k):=by
 have hup:0<u:=by rw [hu];exact Nat.mul_pos (Nat.two_pow_pos _) (Nat.two_pow_pos _)
 have hR:rmag (e*4503599627370496+k)*2^U=k*u:=by rw [Aie k e h2 h3,hu,Nat.mul_assoc]
 have hev:(e*4503599627370496+k)%2=k%2:=by omega
 have hs:∃ g,rmag (e*4503599627370496+k+1)*2^U=k*u+u+g∧(g=0∨k%2=0):=by
  rcases Nat.lt_or_ge k 9007199254740992 with h | h
  ·refine⟨0,?_,.inl rfl⟩
   rw [Nat.add_assoc,Aie (k+1) e (by omega) (by omega),Nat.mul_assoc,←hu,Nat.add_mul];omega
  ·have:k=9007199254740992:=by omega
   subst this
   refine⟨u,?_,.inr (by decide)⟩
   rw [show e*4503599627370496+9007199254740992+1=(e+1)*4503599627370496+4503599627370497 by omega,Aie _ (e+1) (by omega) (by omega)]
   rw [show e+1+26=(e+26)+1 by omega,Nat.pow_succ,Nat.mul_assoc,Nat.mul_assoc,Nat.mul_comm 2 (2^U),←Nat.mul_assoc (2^(e+26)),←hu]
   omega
 obtain⟨g,hs,hg⟩:=hs
 refine⟨by rw [hR,hs];omega,fun h=>?_,fun h=>?_,fun hz h=>?_⟩
 ·rw [hR,hs] at h
  rw [hev]
  rcases hg with h4 | h4
  ·exact v1e (by omega)
  ·exact h4
 ·rw [hR]
  by_cases hk:k=4503599627370496∧e≠0
  ·obtain⟨hk,he⟩:=hk
   have:=v3 he
   have hlt:rmag (e*4503599627370496+k - 1)*2^U<rmag (e*4503599627370496+k)*2^U:=Nat.mul_lt_mul_of_pos_right (Afp (by omega)) (Nat.two_pow_pos _)
   rw [hR] at hlt
   subst hk
   omega
  ·have hk0:k≠0:=by omega
   obtain⟨j,rfl⟩:∃ j,k=j+1:=⟨k - 1,by omega⟩
   rw [show e*4503599627370496+(j+1) - 1=e*4503599627370496+j by omega,Aie j e (by omega) (by omega),Nat.mul_assoc,←hu]
   rw [Nat.add_mul] at v2 ⊢
   omega
 ·rw [hR] at h
  rw [hev]
  by_cases hk:k=4503599627370496∧e≠0
  ·rw [hk.1]
  ·have hk0:k≠0:=by omega
   obtain⟨j,rfl⟩:∃ j,k=j+1:=⟨k - 1,by omega⟩
   rw [show e*4503599627370496+(j+1) - 1=e*4503599627370496+j by omega,Aie j e (by omega) (by omega),Nat.mul_assoc,←hu] at h
   refine v2e ?_
   rw [Nat.add_mul] at h ⊢
   omega
theorem AvN {U mag:Nat} {place:Int} (hm:mag≠0) (hp : -(1100+U:Int)≤place):AgF U (mag*2^(place+1100+U).toNat) (rraw mag place):=by
 obtain⟨hL1,hL2⟩:=(Nat.log2_eq_iff (n:=mag) (k:=mag.log2) hm).1 rfl
 unfold rraw
 generalize mag.log2=L at *
 generalize hlast:max (place+(L:Int) - 52) (-1074)=last
 simp only
 have hl1 : -1074≤last:=by omega
 have hv3:(last+1074).toNat≠0→4503599627370496*(2^((last+1074).toNat+26)*2^U)≤mag*2^(place+1100+U).toNat:=by
  intro h
  have h1:last=place+L - 52:=by omega
  have h2:4503599627370496*(2^((last+1074).toNat+26)*2^U)=2^L*2^(place+1100+U).toNat:=by
   rw [show (4503599627370496:Nat)=2^52 from by decide,←Nat.pow_add,←Nat.pow_add,←Nat.pow_add]
   congr 1;omega
  rw [h2]
  exact Nat.mul_le_mul_right _ hL1
 rcases (by omega:place<last∨last≤place) with hlt | hge
 ·
  obtain⟨d,hd⟩:∃ d:Nat,last - place=(d:Int):=⟨(last - place).toNat,by omega⟩
  have e1:(place - last).toNat=0:=by omega
  have e2:(last - place).toNat=d:=by omega
  rw [e1,e2,Nat.shiftLeft_zero]
  obtain⟨low,rest,hn,hr,hc⟩:=AzP false mag d hm
  rw [hc]
  obtain⟨p,hpp⟩:∃ p,2^(place+1100+U).toNat=p:=⟨_,rfl⟩
  have hp0:0<p:=hpp▸Nat.two_pow_pos _
  have hu:2^((last+1074).toNat+26)*2^U=2^d*p:=by
   rw [←hpp,←Nat.pow_add,←Nat.pow_add];congr 1;omega
  have hlow:low<9007199254740992∧((last+1074).toNat=0∨4503599627370496≤low):=by
   rcases (by omega : -1074<place+(L:Int) - 52∨place+(L:Int) - 52 ≤ -1074) with h | h
   ·have hdL:d+52=L:=by omega
    have a1:(2:Nat)^L=2^d*4503599627370496:=by rw [←hdL,Nat.pow_add]
    have a2:(2:Nat)^(L+1)=2^d*9007199254740992:=by rw [show L+1=d+53 by omega,Nat.pow_add]
    rw [a1,hn] at hL1
    rw [a2,hn] at hL2
    generalize 2^d=D at *
    refine⟨?_,.inr ?_⟩
    ·refine Nat.lt_of_mul_lt_mul_left (a:=D) ?_
     omega
    ·refine Nat.le_of_lt_succ (Nat.lt_of_mul_lt_mul_left (a:=D) ?_)
     have hms:D*(low+1)=D*low+D:=Nat.mul_succ D low
     show D*4503599627370496<D*(low+1)
     omega
   ·refine⟨?_,.inl (by omega)⟩
    have a2:(2:Nat)^(L+1)≤2^d*9007199254740992:=by
     rw [show (9007199254740992:Nat)=2^53 by decide,←Nat.pow_add]
     exact Nat.pow_le_pow_right (by omega) (by omega)
    refine Nat.lt_of_mul_lt_mul_left (a:=2^d) ?_
    omega
  obtain⟨hlow1,hlow2⟩:=hlow
  rw [hpp] at hv3 ⊢
  generalize hD:2^d=D at *
  have hv:mag*p=low*(D*p)+rest*p:=by
   rw [hn,Nat.add_mul,←Nat.mul_assoc,Nat.mul_comm low D]
  have hX:∀ a b:Nat,a*p<b*p↔a<b:=fun a b=>⟨fun h=>Nat.lt_of_mul_lt_mul_right h,fun h=>Nat.mul_lt_mul_of_pos_right h hp0⟩
  have x1:=hX D (2*rest)
  have x2:=hX (2*rest) D
  have x3:=hX rest D
  rw [Nat.mul_assoc] at x1 x2
  rw [hu] at hv3
  generalize hmore:(decide (D<2*rest) || (decide (D=2*rest) && decide (low%2=1)))=more
  have hmc:(more=true→D*p≤2*(rest*p)∧(D*p=2*(rest*p)→low%2=1))∧(more=false→2*(rest*p)≤D*p∧(2*(rest*p)=D*p→low%2=0)):=by
   rw [←hmore]
   simp only [Bool.or_eq_true,Bool.and_eq_true,decide_eq_true_iff,Bool.or_eq_false_iff,Bool.and_eq_false_iff,decide_eq_false_iff_not]
   refine⟨fun h=>⟨?_,fun g=>?_⟩,fun h=>⟨?_,fun g=>?_⟩⟩<;>omega
  have hdp:rest*p<D*p:=x3.2 hr
  refine Asy ?_ ?_ (D*p) hu.symm ?_ ?_ ?_ ?_ hv3
  ·cases more<;>simp<;>omega
  ·rcases hlow2 with h | h
   ·exact .inl h
   ·exact .inr (by omega)
  all_goals
   rw [hv]
   generalize rest*p=X at *
   generalize D*p=u at *
   cases more
   ·obtain⟨y1,y2⟩:=hmc.2 rfl
    simp only [Bool.toNat_false,Nat.add_zero]
    generalize low*u=Y at *
    omega
   ·obtain⟨y1,y2⟩:=hmc.1 rfl
    simp only [Bool.toNat_true,Nat.add_mul,Nat.one_mul]
    generalize low*u=Y at *
    omega
 ·
  obtain⟨d,hd⟩:∃ d:Nat,place - last=(d:Int):=⟨(place - last).toNat,by omega⟩
  have e1:(place - last).toNat=d:=by omega
  have e2:(last - place).toNat=0:=by omega
  rw [e1,e2]
  have hk:Toward.even.cut false (mag <<< d) 0=mag*2^d:=by
   have hne:mag <<< d≠0:=by
    rw [Nat.shiftLeft_eq]
    exact Nat.ne_of_gt (Nat.mul_pos (Nat.pos_of_ne_zero hm) (Nat.two_pow_pos _))
   obtain⟨low,rest,hn,hr,hc⟩:=AzP false (mag <<< d) 0 hne
   rw [hc]
   rw [Nat.shiftLeft_eq] at hn
   simp at hn hr
   subst hr
   simp
   omega
  rw [hk]
  have hv:mag*2^(place+1100+U).toNat=mag*2^d*(2^((last+1074).toNat+26)*2^U):=by
   rw [Nat.mul_assoc,←Nat.pow_add,←Nat.pow_add]
   congr 2;omega
  have hb:mag*2^d<9007199254740992∧((last+1074).toNat=0∨4503599627370496≤mag*2^d):=by
   have b1:mag*2^d<2^(L+1)*2^d:=Nat.mul_lt_mul_of_pos_right hL2 (Nat.two_pow_pos _)
   have b2:2^L*2^d≤mag*2^d:=Nat.mul_le_mul_right _ hL1
   rw [←Nat.pow_add] at b1 b2
   have b3:(2:Nat)^(L+1+d)≤2^53:=Nat.pow_le_pow_right (by omega) (by omega)
   refine⟨by omega,?_⟩
   rcases Nat.eq_zero_or_pos (last+1074).toNat with h | h
   ·exact .inl h
   ·have b4:(2:Nat)^52≤2^(L+d):=Nat.pow_le_pow_right (by omega) (by omega)
    exact .inr (by omega)
  have hup:0<2^((last+1074).toNat+26)*2^U:=Nat.mul_pos (Nat.two_pow_pos _) (Nat.two_pow_pos _)
  rw [hv] at hv3 ⊢
  generalize hq:2^((last+1074).toNat+26)*2^U=u at *
  refine Asy (by omega) hb.2 u hq.symm ?_ ?_ ?_ ?_ hv3<;>generalize mag*2^d*u=Y at * <;>omega
end Go.Eng
namespace Go.Eng
open Go Ieee
theorem fN_t {w:Nat}:fN w=true↔infR<fR w:=decide_eq_true_iff
theorem fN_f {w:Nat}:fN w=false↔fR w≤infR:=by rw [fN,decide_eq_false_iff_not];omega
def Ala (s:Bool) (r:Nat):Nat:=if s then 9223372036854775808+r else r
theorem fword_lt {s:Bool} {r:Nat} (h:r≤infR):Ala s r<18446744073709551616:=by unfold Ala infR at*;split<;>omega
theorem fR_word {s:Bool} {r:Nat} (h:r≤infR):fR (Ala s r)=r:=by unfold Ala fR infR at*;split<;>omega
theorem fS_word {s:Bool} {r:Nat} (h:r≤infR):fS (Ala s r)=s:=by
 unfold Ala fS infR at *
 cases s
 ·simp only [Bool.false_eq_true,if_false];exact decide_eq_false (by omega)
 ·simp only [if_true];exact decide_eq_true (by omega)
theorem fN_word {s:Bool} {r:Nat} (h:r≤infR):fN (Ala s r)=false:=by
 unfold fN;rw [fR_word h];exact decide_eq_false (by omega)
theorem rnd_le (m:Nat) (i:Int):rnd m i≤infR:=by unfold rnd;split<;>omega
theorem AsT (s:Bool) (m:Nat) (i:Int):Format.nearest double s m i=Ala s (rnd m i):=BaS s m i
theorem Ajm {U m:Nat} {i:Int} (hp : -(1100+U:Int)≤i):∃ R,AgF U (m*2^(i+1100+U).toNat) R∧rnd m i=min R infR:=by
 by_cases hm:m=0
 ·refine⟨0,?_,?_⟩
  ·rw [hm,Nat.zero_mul]
   have:=AgF.exact (U:=U) 0
   rwa [AlW,Nat.zero_mul] at this
  ·rw [hm,Nat.zero_min];exact if_pos rfl
 ·refine⟨_,AvN hm hp,?_⟩
  unfold rnd;rw [if_neg hm]
theorem ApX {w:Nat} (hw:w<18446744073709551616) (h:fR w<infR):∃ m i,Format.read double w = .number (fS w) m i ∧ -1074≤i∧m*2^(i+1100).toNat=rmag (fR w):=by
 have hr:=rd_of hw
 have hi := @read_num w
 generalize Format.read double w=x at hr hi
 cases hr with
 | nan h1=>have:=fN_t.1 h1;omega
 | inf h1 h2=>omega
 | @num m i h1 h2 h3 h4 =>
   refine⟨m,i,rfl,(hi rfl).1,?_⟩
   rw [AwD] at h4
   exact Int.ofNat_inj.1 h4
theorem read_inf {w:Nat} (hw:w<18446744073709551616) (h:fR w=infR):Format.read double w = .infinity (fS w):=by
 have hr:=rd_of hw
 generalize Format.read double w=x at hr
 cases hr with
 | nan h1=>have:=fN_t.1 h1;omega
 | inf h1 h2=>rfl
 | num h1 h2 h3 h4=>omega
theorem Bcf (s:Bool):Format.write double (.infinity s)=Ala s infR:=by
 cases s<;>decide+kernel
theorem two_mag {r:Nat} (h:r≠0):rmag (r+1)≤2*rmag r:=by
 unfold rmag
 by_cases h1:r+1<4503599627370496
 ·rw [if_pos h1,if_pos (by omega)]
  omega
 ·rw [if_neg h1]
  by_cases h2:r<4503599627370496
  ·have:r=4503599627370495:=by omega
   subst this;decide
  ·rw [if_neg h2]
   by_cases h3:(r+1)%4503599627370496=0
   ·have e1:(r+1) / 4503599627370496=r / 4503599627370496+1:=by omega
    have e2:r%4503599627370496=4503599627370495:=by omega
    rw [h3,e1,e2,show r / 4503599627370496+1+25=(r / 4503599627370496+25)+1 by omega,Nat.pow_succ]
    generalize 2^(r / 4503599627370496+25)=q
    omega
   ·have e1:(r+1) / 4503599627370496=r / 4503599627370496:=by omega
    have e2:(r+1)%4503599627370496=r%4503599627370496+1:=by omega
    rw [e1,e2]
    generalize 2^(r / 4503599627370496+25)=q
    rw [←Nat.add_assoc,Nat.add_mul]
    have:q≤(4503599627370496+r%4503599627370496)*q:=Nat.le_mul_of_pos_left q (by omega)
    omega
theorem add_self {w:Nat} (hw:w<18446744073709551616) (hn:fN w=false) :
 ∃ r,FloatKind.f64.format.add w w=some (Ala (fS w) r)∧r≤infR∧fR w≤r∧(r=fR w↔fR w=0∨fR w=infR):=by
 have hle:fR w≤infR:=fN_f.1 hn
 by_cases hi:fR w=infR
 ·refine⟨infR,?_,Nat.le_refl _,hle,by rw [hi];simp⟩
  show ((Format.read double w).sum (Format.read double w)).map (Format.write double)=_
  rw [read_inf hw hi]
  simp [Datum.sum,Bcf]
 ·obtain⟨m,i,h1,h2,h3⟩:=ApX hw (by omega)
  have hs:∀ s:Bool,(signed s m (i - min i i).toNat+signed s m (i - min i i).toNat).natAbs=2*m∧((if signed s m (i - min i i).toNat+signed s m (i - min i i).toNat=0 then s && s else decide (signed s m (i - min i i).toNat+signed s m (i - min i i).toNat<0))=s):=by
   intro s
   have:(i - min i i).toNat=0:=by omega
   rw [this]
   cases s<;>simp [signed]<;>omega
  have hsum:(Datum.number (fS w) m i).sum (Datum.number (fS w) m i)=some (.number (fS w) (2*m) i):=by
   obtain⟨a,b⟩:=hs (fS w)
   simp only [Datum.sum]
   rw [a,b,Int.min_self]
  have hadd:FloatKind.f64.format.add w w=some (Ala (fS w) (rnd (2*m) i)):=by
   show ((Format.read double w).sum (Format.read double w)).map (Format.write double)=_
   rw [h1,hsum]
   show some (Format.nearest double (fS w) (2*m) i)=_
   rw [AsT]
  refine⟨rnd (2*m) i,hadd,rnd_le _ _,?_⟩
  by_cases hz:fR w=0
  ·have hm:m=0:=by
    rw [hz,AlW] at h3
    rcases Nat.mul_eq_zero.1 h3 with h | h
    ·exact h
    ·have:=Nat.two_pow_pos (i+1100).toNat;omega
   rw [hm,hz]
   exact⟨Nat.zero_le _,by simp [rnd]⟩
  ·have hge:fR w+1≤rnd (2*m) i:=by
    obtain⟨R,r1,r2⟩:=Ajm (U:=0) (m:=2*m) (i:=i) (by omega)
    have r3:=(AgF.exact (U:=0) (fR w+1)).mono r1 (by
     rw [show i+1100+((0:Nat):Int)=i+1100 by omega,Nat.mul_assoc,h3]
     have:=two_mag hz
     simpa using this)
    omega
   exact⟨by omega,by omega⟩
end Go.Eng
namespace Go.Eng
open Go Ieee
end Go.Eng
namespace Go.Eng
open Go
section
variable [Inhabited GlobT] {AP:Aaa} {N:Nat}
theorem callS_sh {f:Nat} {af:AFunc} {as:List Zv} {S S2:Ab} {ex:Bx} {fr2:List Zv} {m2:FM} {vs:List Zv} {n:Nat} (hf:AP.fn f=some af) (hn:as.length=af.nargs) (hdf:af.dfOf=false)
 (h1:Fr fr2 m2) (h2:ex = .normal∨ex = .ret) (h3:Abx m2 S2 af.res=some vs) (h4:AJ AP n (max af.nargs af.N) af.body ⟨as,S⟩=some (ex,⟨fr2,S2⟩)):callS AP (AJ AP n) f as S=some (one vs,S2):=by
 have hfin:finish af (ex,⟨fr2,S2⟩)=some (one vs,S2):=by
  rcases h2 with rfl | rfl<;>simp only [finish,h1.resL h3]
 simp only [callS,hf,hn,if_true,h4,hfin,hdf]
theorem tl_share {d:Option Nat} {args:List Ag} {f:Nat} {af:AFunc} {as:List Zv} {g:Option (Nat × Bool)} {un:List Nat} {l:List Ae} {m:FM} {S:Ab} {K:FM→Ab→Prop}
 (hd:(d.all fun d=>d<N)=true) (hg:gd m g=some true) (ha:los m args=some as) (hp:AP.prim f=none) (hke:AP.keep f=false) (hsp:AP.split f=false) (hpu:AP.pure f=none) (hs:AP.share f=true)
 (hf:AP.fn f=some af) (hn:as.length=af.nargs) (hdf:af.dfOf=false)
 (h:TC AP (max af.nargs af.N) af.body (Awo 0 as) S fun ex m2 S2=>(ex = .normal∨ex = .ret)∧∃ vs,Abx m2 S2 af.res=some vs∧TL AP N l (putM m d (one vs)) S2 K) :
 TL AP N (⟨d,.call (.c (.fn (.func f) [] [])) args,g,un⟩::l) m S K:=fun fr hfr=>by
 have hg':=hfr.gd hg
 obtain⟨ex,fr2,m2,S2,h1,⟨h2,vs,h3,hk⟩,h5⟩:=h as (AgU as)
 obtain⟨fr',m',S'',k1,k2,k3⟩:=hk _ (hfr.putO d (one vs))
 refine⟨fr',m',S'',k1,k2,?_⟩
 refine h5.bind k3 fun n hn' hm=>?_
 have hsh:sharesG AP ⟨fr,S⟩ ⟨d,.call (.c (.fn (.func f) [] [])) args,g,un⟩=some (some (f,as)):=by
  rw [Ada hg']
  simp only [Aed,fvOf,opd,hfr.opds ha,hp,hke,hsp,hpu,hs,Option.isSome_none,Bool.or_self,Bool.false_eq_true,if_false,if_true,List.nil_append,List.append_nil]
 have hcs:=callS_sh hf hn hdf h1 h2 h3 hn'
 simp only [stepL,step1,hsh,hd,if_true,hcs,hm]
theorem AhR {d:Option Nat} {n:Nat} {args:List Ag} {f:Nat} {vs:List Zv} {g:Option (Nat × Bool)} {un:List Nat} {l:List Ae} {m:FM} {S:Ab} {r:Zv} {K:FM→Ab→Prop}
 (hf:lo m (.t n)=some (.fn (.func f) [] [])) (ha:los m args=some vs) (hc:Aj vs=true) (hr:Ak AP f vs r) (hfl:(norefL vs || r.flat)=true)
 (hd:(d.all fun d=>d<N)=true) (hg:gd m g=some true) (hp:AP.prim f=none) (hke:AP.keep f=false) (hal:AP.slim=true)
 (hk:TL AP N l (putM m d r) (S++[none]) K) (hshr:AP.share f=false:=by rfl):TL AP N (⟨d,.call (.t n) args,g,un⟩::l) m S K :=
 tl_call (first:=[]) (cap:=[]) (ids:=[]) hd hg hf ha hp hke (by rw [List.nil_append,List.append_nil,Azk _ _ hc];rfl) hr (by simpa using hfl) hk (by simp only [AA,hal]) hshr
theorem Adh {S:Ab} {v v':Zv} {vs vs':List Zv} {k:Nat} {i j:List Nat} (h:(frz k v).run S=some (v',i)) (hr:(RM.mapL (frz k) vs).run S=some (vs',j)):(RM.mapL (frz k) (v::vs)).run S=some (v'::vs',i++(j++[])):=by
 simp only [RM.mapL]
 refine AaS _ _ _ _ _ _ _ h ?_
 exact AaS _ _ _ _ _ _ _ hr rfl
theorem Adi {S:Ab} {vs:List Zv} {k:Nat} (h:Aj vs=true):(RM.mapL (frz k) vs).run S=some (vs,[]):=by rw [Azk _ _ h];rfl
theorem Azz {S:Ab} {vs vs':List Zv} {n:Nat} {i:List Nat} (hc:Aj vs=false) (h:(RM.mapL (frz n) vs).run S=some (vs',i)):(frz (n+1) (.agg vs)).run S=some (.agg vs',i++[]):=by
 simp only [frz,frzG,Zv.closed,hc,Bool.false_eq_true,if_false]
 exact AaS _ _ _ _ _ _ _ h rfl
theorem AoX {S:Ab} {vs vs':List Zv} {n:Nat} {i:List Nat} (hc:Aj vs=false) (h:(RM.mapL (frz n) vs).run S=some (vs',i)):(frz (n+1) (.tuple vs)).run S=some (.tuple vs',i++[]):=by
 simp only [frz,frzG,Zv.closed,hc,Bool.false_eq_true,if_false]
 exact AaS _ _ _ _ _ _ _ h rfl
end
end Go.Eng
