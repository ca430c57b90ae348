/- Floating-point numbers in order; rounding; no condition. -/
import Derived.Test.YtjolcimbcbcahaaGreatDoorE1
set_option linter.unusedSectionVars false
set_option linter.unusedVariables false
set_option linter.unusedSimpArgs false
set_option linter.unnecessarySimpa false
namespace Go.Eng
open Go Ieee
theorem Apf (s:Bool) (m a b:Nat):signed s m (a+b)=signed s m a*((2^b:Nat):Int):=by
 have h:m <<< (a+b)=m <<< a*2^b:=by
  rw [Nat.shiftLeft_eq,Nat.shiftLeft_eq,Nat.pow_add,Nat.mul_assoc]
 cases s
 ·simp only [signed,Bool.false_eq_true,if_false]
  rw [h];push_cast;rfl
 ·simp only [signed,if_true]
  rw [h];push_cast;rw [Int.neg_mul]
theorem AxT (x y:Int) (c:Nat) (hc:0<c):compare (x*(c:Int)) (y*(c:Int))=compare x y:=by
 have hc':(0:Int)<c:=by exact_mod_cast hc
 rcases Int.lt_trichotomy x y with h | h | h
 ·rw [Int.compare_eq_lt.2 h,Int.compare_eq_lt.2 (Int.mul_lt_mul_of_pos_right h hc')]
 ·subst h;simp
 ·rw [Int.compare_eq_gt.2 h,Int.compare_eq_gt.2 (Int.mul_lt_mul_of_pos_right h hc')]
def fval (s:Bool) (m:Nat) (i:Int):Int:=signed s m (i+1100).toNat
theorem Bcz {s t:Bool} {m n:Nat} {i j:Int} (hi : -1100≤i) (hj : -1100≤j) :
 Datum.order (.number s m i) (.number t n j)=some (compare (fval s m i) (fval t n j)):=by
 have hb : -1100≤min i j:=by omega
 have e1:(i+1100).toNat=(i - min i j).toNat+(min i j+1100).toNat:=by omega
 have e2:(j+1100).toNat=(j - min i j).toNat+(min i j+1100).toNat:=by omega
 simp only [Datum.order,fval]
 rw [e1,e2,Apf,Apf,AxT _ _ _ (Nat.two_pow_pos _)]
theorem read_num {w m:Nat} {s:Bool} {i:Int} (h:Format.read double w = .number s m i) : -1074≤i∧i≤1000∧m<2^53:=by
 have hb:double.binade=4503599627370496:=by decide
 have hl:double.leastPlace = -1074:=by decide
 have hf:double.infRung=9218868437227405312:=by decide
 unfold Format.read at h
 simp only [hb,hl,hf] at h
 split at h
 ·cases h;exact⟨by omega,by omega,by omega⟩
 ·split at h
  ·rename_i h1 h2
   cases h
   refine⟨by omega,?_,by omega⟩
   generalize w%double.signWeight=r at h1 h2 ⊢
   omega
  ·split at h<;>cases h
theorem fval_eq (m:Nat) (i:Int):fval false m i=((m*2^(i+1100).toNat:Nat):Int):=by
 unfold fval
 generalize (i+1100).toNat=k
 simp only [signed,Bool.false_eq_true,if_false,Nat.shiftLeft_eq]
theorem fval_neg {m:Nat} {i:Int}:fval true m i = - fval false m i:=by
 unfold fval
 generalize (i+1100).toNat=k
 simp [signed]
end Go.Eng
namespace Go.Eng
open Go Ieee
def infR:Nat:=9218868437227405312
def fS (w:Nat):Bool:=decide (9223372036854775808≤w)
def fR (w:Nat):Nat:=w%9223372036854775808
def fN (w:Nat):Bool:=decide (infR<fR w)
def fK (w:Nat):Int:=if fS w then -(fR w:Int) else (fR w:Int)
def rmag (r:Nat):Nat:=if r<4503599627370496 then r*2^26 else (4503599627370496+r%4503599627370496)*2^(r / 4503599627370496+25)
theorem Bck {a b:Nat} (h:a<b):rmag a<rmag b:=by
 unfold rmag
 by_cases h1:b<4503599627370496
 ·rw [if_pos (by omega),if_pos h1]
  exact Nat.mul_lt_mul_of_pos_right h (Nat.two_pow_pos _)
 ·rw [if_neg h1]
  have e1:1≤b / 4503599627370496:=by omega
  by_cases h2:a<4503599627370496
  ·rw [if_pos h2]
   have h3:a*2^26<4503599627370496*2^26:=Nat.mul_lt_mul_of_pos_right h2 (Nat.two_pow_pos _)
   have h4:(2:Nat)^26≤2^(b / 4503599627370496+25):=Nat.pow_le_pow_right (by omega) (by omega)
   have h5:4503599627370496*2^26≤(4503599627370496+b%4503599627370496)*2^(b / 4503599627370496+25):=Nat.mul_le_mul (by omega) h4
   omega
  ·rw [if_neg h2]
   rcases Nat.lt_or_ge (a / 4503599627370496) (b / 4503599627370496) with h3 | h3
   ·have h4:(4503599627370496+a%4503599627370496)*2^(a / 4503599627370496+25)<(2*4503599627370496)*2^(a / 4503599627370496+25) :=
     Nat.mul_lt_mul_of_pos_right (by omega) (Nat.two_pow_pos _)
    have h5:(2*4503599627370496)*2^(a / 4503599627370496+25)=4503599627370496*2^(a / 4503599627370496+1+25):=by
     rw [show a / 4503599627370496+1+25=(a / 4503599627370496+25)+1 by omega]
     generalize a / 4503599627370496+25=k
     rw [Nat.pow_succ]
     omega
    have h6:(2:Nat)^(a / 4503599627370496+1+25)≤2^(b / 4503599627370496+25):=Nat.pow_le_pow_right (by omega) (by omega)
    have h7:4503599627370496*2^(a / 4503599627370496+1+25)≤(4503599627370496+b%4503599627370496)*2^(b / 4503599627370496+25):=Nat.mul_le_mul (by omega) h6
    omega
   ·have h4:a / 4503599627370496=b / 4503599627370496:=by omega
    rw [h4]
    exact Nat.mul_lt_mul_of_pos_right (by omega) (Nat.two_pow_pos _)
theorem Bcj:rmag 0=0:=rfl
theorem AlS (a b:Nat):(rmag a<rmag b↔a<b)∧(rmag a=rmag b↔a=b):=by
 rcases Nat.lt_trichotomy a b with h | h | h
 ·have:=Bck h;exact⟨by omega,by omega⟩
 ·subst h;exact⟨by omega,by omega⟩
 ·have:=Bck h;exact⟨by omega,by omega⟩
inductive RdOf (w:Nat):Datum→Prop
 | nan {s f}:fN w=true→RdOf w (.nan s f)
 | inf:fN w=false→fR w=infR→RdOf w (.infinity (fS w))
 | num {m i}:fN w=false→fR w<infR → -1100≤i→fval false m i=(rmag (fR w):Int)→RdOf w (.number (fS w) m i)
theorem rd_of {w:Nat} (hw:w<18446744073709551616):RdOf w (Format.read double w):=by
 have hb:double.binade=4503599627370496:=by decide
 have hl:double.leastPlace = -1074:=by decide
 have hf:double.infRung=9218868437227405312:=by decide
 have hs:double.signWeight=9223372036854775808:=by decide
 have hsg:(w / 9223372036854775808%2 == 1)=fS w:=by
  unfold fS
  rcases Nat.lt_or_ge w 9223372036854775808 with h | h
  ·rw [show w / 9223372036854775808%2=0 by omega];simp;omega
  ·rw [show w / 9223372036854775808%2=1 by omega];simp [h]
 unfold Format.read
 simp only [hb,hl,hf,hs,hsg]
 have hR:w%9223372036854775808=fR w:=rfl
 rw [hR]
 split
 ·rename_i h
  refine .num ?_ (by unfold infR;omega) (by omega) ?_
  ·unfold fN infR;simp;omega
  ·rw [fval_eq];unfold rmag;rw [if_pos h];rfl
 ·rename_i h
  split
  ·rename_i h2
   refine .num ?_ (by unfold infR;omega) (by omega) ?_
   ·unfold fN infR;simp;omega
   ·rw [fval_eq];unfold rmag;rw [if_neg h]
    have:(-1074+((fR w / 4503599627370496 - 1:Nat):Int)+1100).toNat=fR w / 4503599627370496+25:=by omega
    rw [this]
  ·rename_i h2
   split
   ·rename_i h3
    refine .inf ?_ h3
    unfold fN infR;simp;omega
   ·rename_i h3
    refine .nan ?_
    unfold fN infR;simp;omega
theorem Ass (a b:Nat) (s t:Bool) :
 compare (if s then -(rmag a:Int) else (rmag a:Int)) (if t then -(rmag b:Int) else (rmag b:Int))=compare (if s then -(a:Int) else (a:Int)) (if t then -(b:Int) else (b:Int)):=by
 obtain⟨h1,h2⟩:=AlS a b
 obtain⟨h3,h4⟩:=AlS b a
 obtain⟨z1,z2⟩:=AlS 0 a
 obtain⟨z3,z4⟩:=AlS 0 b
 rw [Bcj] at z1 z2 z3 z4
 generalize rmag a=A at *
 generalize rmag b=B at *
 have key:∀ x y x' y':Int,((x<y↔x'<y')∧(x=y↔x'=y'))→compare x y=compare x' y':=by
  intro x y x' y' ⟨p,q⟩
  rcases Int.lt_trichotomy x' y' with h | h | h
  ·rw [Int.compare_eq_lt.2 h,Int.compare_eq_lt.2 (p.2 h)]
  ·rw [Int.compare_eq_eq.2 h,Int.compare_eq_eq.2 (q.2 h)]
  ·rw [Int.compare_eq_gt.2 h,Int.compare_eq_gt.2 (by omega)]
 refine key _ _ _ _ ?_
 cases s<;>cases t<;>simp<;>omega
theorem AnA (a b:Nat) (ha:a<18446744073709551616) (hb:b<18446744073709551616) :
 FloatKind.f64.format.order a b=if fN a || fN b then none else some (compare (fK a) (fK b)):=by
 show (Format.read double a).order (Format.read double b)=_
 have hA:=rd_of ha
 have hB:=rd_of hb
 have fv:∀ s m i,fval s m i=if s then - fval false m i else fval false m i:=by
  intro s m i;cases s
  ·rfl
  ·exact fval_neg
 generalize Format.read double a=x at hA
 generalize Format.read double b=y at hB
 cases hA with
 | nan h=>rw [h];cases hB<;>rfl
 | inf h h' =>
   rw [h]
   cases hB with
   | nan g=>rw [g];rfl
   | inf g g' =>
     rw [g]
     simp only [Bool.or_self,Bool.false_eq_true,if_false,Datum.order,fK,h',g']
     cases fS a<;>cases fS b<;>rfl
   | num g g' =>
     rw [g]
     simp only [Bool.or_self,Bool.false_eq_true,if_false,Datum.order,fK,h']
     cases fS a
     ·simp only [Bool.false_eq_true,if_false]
      rw [Int.compare_eq_gt.2 (by split<;>omega)]
     ·simp only [if_true]
      rw [Int.compare_eq_lt.2 (by split<;>omega)]
 | num h h' hi hv =>
   rw [h]
   cases hB with
   | nan g=>rw [g];rfl
   | inf g g' =>
     rw [g]
     simp only [Bool.or_self,Bool.false_eq_true,if_false,Datum.order,fK,g']
     cases fS b
     ·simp only [Bool.false_eq_true,if_false]
      rw [Int.compare_eq_lt.2 (by split<;>omega)]
     ·simp only [if_true]
      rw [Int.compare_eq_gt.2 (by split<;>omega)]
   | num g g' gi gv =>
     rw [g,Bcz (by omega) (by omega),fv,fv (fS b),hv,gv,Ass]
     rfl
theorem AxV (x y:Int):(compare x y == .lt)=decide (x<y)∧(compare x y == .eq)=decide (x=y)∧(compare x y == .gt)=decide (y<x):=by
 rcases Int.lt_trichotomy x y with h | h | h
 ·rw [Int.compare_eq_lt.2 h,decide_eq_true h,decide_eq_false (by omega),decide_eq_false (by omega)]
  exact⟨rfl,rfl,rfl⟩
 ·rw [Int.compare_eq_eq.2 h,decide_eq_true h,decide_eq_false (by omega),decide_eq_false (by omega)]
  exact⟨rfl,rfl,rfl⟩
 ·rw [Int.compare_eq_gt.2 h,decide_eq_true h,decide_eq_false (by omega),decide_eq_false (by omega)]
  exact⟨rfl,rfl,rfl⟩
theorem fo_lt {a b:Nat} (ha:a<18446744073709551616) (hb:b<18446744073709551616) :
 (FloatKind.f64.format.order a b == some .lt)=(!fN a && !fN b && decide (fK a<fK b)):=by
 rw [AnA a b ha hb]
 cases fN a<;>cases fN b<;>simp
 exact(AxV _ _).1
theorem fo_gt {a b:Nat} (ha:a<18446744073709551616) (hb:b<18446744073709551616) :
 (FloatKind.f64.format.order a b == some .gt)=(!fN a && !fN b && decide (fK b<fK a)):=by
 rw [AnA a b ha hb]
 cases fN a<;>cases fN b<;>simp
 exact(AxV _ _).2.2
theorem fo_eq {a b:Nat} (ha:a<18446744073709551616) (hb:b<18446744073709551616) :
 (FloatKind.f64.format.order a b == some .eq)=(!fN a && !fN b && decide (fK a=fK b)):=by
 rw [AnA a b ha hb]
 cases fN a<;>cases fN b<;>simp
 exact(AxV _ _).2.1
theorem fo_le {a b:Nat} (ha:a<18446744073709551616) (hb:b<18446744073709551616) :
 (FloatKind.f64.format.order a b == some .lt || FloatKind.f64.format.order a b == some .eq)=(!fN a && !fN b && decide (fK a≤fK b)):=by
 rw [fo_lt ha hb,fo_eq ha hb]
 cases fN a<;>cases fN b<;>simp
 rw [←Bool.decide_or]
 exact decide_eq_decide.2 (by omega)
theorem fo_ge {a b:Nat} (ha:a<18446744073709551616) (hb:b<18446744073709551616) :
 (FloatKind.f64.format.order a b == some .gt || FloatKind.f64.format.order a b == some .eq)=(!fN a && !fN b && decide (fK b≤fK a)):=by
 rw [fo_gt ha hb,fo_eq ha hb]
 cases fN a<;>cases fN b<;>simp
 rw [←Bool.decide_or]
 exact decide_eq_decide.2 (by omega)
end Go.Eng
namespace Go.Eng
open Go Ieee
theorem cut_even (neg:Bool) (n d:Nat) (hn:n≠0) :
 ∃ low rest,n=2^d*low+rest∧rest<2^d∧Toward.even.cut neg n d=low+(decide (2^d<2*rest) || (decide (2^d=2*rest) && decide (low%2=1))).toNat:=by
 have hL:=(Nat.log2_eq_iff (n:=n) (k:=n.log2) hn).1 rfl
 rcases Nat.lt_or_ge (n.log2+2) d with h | h
 ·
  have h1:n<2^(n.log2+1):=hL.2
  have h2:(2:Nat)^(n.log2+2)=2*2^(n.log2+1):=by rw [Nat.pow_succ];omega
  have h3:(2:Nat)^(n.log2+2)≤2^d:=Nat.pow_le_pow_right (by omega) (by omega)
  refine⟨0,n,by omega,by omega,?_⟩
  unfold Toward.cut
  simp only [Nat.min_eq_right (Nat.le_of_lt h),Nat.shiftLeft_eq,Nat.one_mul]
  rw [Nat.div_eq_of_lt (by omega),Nat.mod_eq_of_lt (by omega)]
  rw [decide_eq_false (by omega),decide_eq_false (by omega),decide_eq_false (by omega)]
  have:((2^(n.log2+2):Nat) == 2*n)=false:=by simp;omega
  rw [this]
  rfl
 ·refine⟨n / 2^d,n%2^d,(Nat.div_add_mod n (2^d)).symm,Nat.mod_lt _ (Nat.two_pow_pos _),?_⟩
  unfold Toward.cut
  simp only [Nat.min_eq_left h,Nat.shiftLeft_eq,Nat.one_mul]
  congr 2
def rraw (mag:Nat) (place:Int):Nat :=
 let last:=max (place+mag.log2 - 52) (-1074)
 (last+1074).toNat*4503599627370496+Toward.even.cut false (mag <<< (place - last).toNat) (last - place).toNat
def rnd (mag:Nat) (place:Int):Nat:=if mag=0 then 0 else min (rraw mag place) infR
theorem Baz (neg:Bool) (mag:Nat) (place:Int):Format.nearest double neg mag place=if neg then 9223372036854775808+rnd mag place else rnd mag place:=by
 have hb:double.binade=4503599627370496:=by decide
 have hl:double.leastPlace = -1074:=by decide
 have hf:double.infRung=9218868437227405312:=by decide
 have hs:double.signWeight=9223372036854775808:=by decide
 have hfb:(double.fractionBits:Int)=52:=by decide
 unfold Format.nearest rnd
 by_cases h:mag=0
 ·rw [if_pos h,if_pos h]
  unfold Format.word;rw [hs]
 ·rw [if_neg h,if_neg h]
  simp only [hb,hl,hf,hfb]
  unfold Format.word;rw [hs]
  have e:∀ n d,Toward.even.cut neg n d=Toward.even.cut false n d:=fun n d=>rfl
  rw [e]
  rfl
theorem rmag_mul (k e:Nat) (h:k≤9007199254740992) (h2:e=0∨4503599627370496≤k):rmag (e*4503599627370496+k)=k*2^(e+26):=by
 unfold rmag
 by_cases h1:e*4503599627370496+k<4503599627370496
 ·rw [if_pos h1]
  have:e=0:=by omega
  subst this
  simp
 ·rw [if_neg h1]
  by_cases h3:k=9007199254740992
  ·subst h3
   have e1:(e*4503599627370496+9007199254740992)%4503599627370496=0:=by omega
   have e2:(e*4503599627370496+9007199254740992) / 4503599627370496=e+2:=by omega
   rw [e1,e2,show e+2+25=(e+26)+1 by omega]
   generalize e+26=q
   rw [Nat.pow_succ];omega
  ·have e1:4503599627370496+(e*4503599627370496+k)%4503599627370496=k:=by omega
   have e2:(e*4503599627370496+k) / 4503599627370496=e+1:=by omega
   rw [e1,e2]
structure Rounds (U:Nat) (v R:Nat):Prop where
 up:2*v≤rmag R*2^U+rmag (R+1)*2^U
 upe:2*v=rmag R*2^U+rmag (R+1)*2^U→R%2=0
 dn:R≠0→rmag (R - 1)*2^U+rmag R*2^U≤2*v
 dne:R≠0→rmag (R - 1)*2^U+rmag R*2^U=2*v→R%2=0
theorem Rounds.mono {U v v' R R':Nat} (h:Rounds U v R) (h':Rounds U v' R') (hv:v≤v'):R≤R':=by
 refine Classical.byContradiction fun hn=>?_
 have hlt:R'<R:=by omega
 have p:=Nat.two_pow_pos U
 have m1:rmag R'*2^U≤rmag (R - 1)*2^U:=by
  refine Nat.mul_le_mul_right _ ?_
  rcases Nat.lt_or_ge R' (R - 1) with g | g
  ·exact Nat.le_of_lt (Bck g)
  ·have:R'=R - 1:=by omega
   rw [this];exact Nat.le_refl _
 have m2:rmag (R'+1)*2^U≤rmag R*2^U:=by
  refine Nat.mul_le_mul_right _ ?_
  rcases Nat.lt_or_ge (R'+1) R with g | g
  ·exact Nat.le_of_lt (Bck g)
  ·have:R'+1=R:=by omega
   rw [this];exact Nat.le_refl _
 have a1:=h'.up
 have a2:=h.dn (by omega)
 have e1:2*v'=rmag R'*2^U+rmag (R'+1)*2^U:=by omega
 have e2:rmag (R - 1)*2^U+rmag R*2^U=2*v:=by omega
 have e3:rmag R'*2^U=rmag (R - 1)*2^U:=by omega
 have e4:rmag R'=rmag (R - 1):=Nat.eq_of_mul_eq_mul_right p e3
 have e5:R'=R - 1:=(AlS _ _).2.1 e4
 have b1:=h'.upe e1
 have b2:=h.dne (by omega) e2
 omega
theorem Rounds.exact {U:Nat} (R:Nat):Rounds U (rmag R*2^U) R:=by
 have p:=Nat.two_pow_pos U
 have h1:rmag R*2^U<rmag (R+1)*2^U:=Nat.mul_lt_mul_of_pos_right (Bck (by omega)) p
 refine⟨by omega,by omega,fun h=>?_,fun h=>?_⟩
 ·have h2:rmag (R - 1)*2^U<rmag R*2^U:=Nat.mul_lt_mul_of_pos_right (Bck (by omega)) p
  omega
 ·have h2:rmag (R - 1)*2^U<rmag R*2^U:=Nat.mul_lt_mul_of_pos_right (Bck (by omega)) p
  omega
theorem Rounds.uniq {U v R R':Nat} (h:Rounds U v R) (h':Rounds U v R'):R=R' :=
 Nat.le_antisymm (h.mono h' (Nat.le_refl _)) (h'.mono h (Nat.le_refl _))
end Go.Eng
namespace Go.Eng
open Go Ieee
theorem rounds_of {U v k e:Nat} (h2:k≤9007199254740992) (h3:e=0∨4503599627370496≤k)
 (u:Nat) (hu:u=2^(e+26)*2^U)
 (v1:2*v≤2*(k*u)+u) (v1e:2*v=2*(k*u)+u→k%2=0)
 (v2:2*(k*u)≤2*v+u) (v2e:2*(k*u)=2*v+u→k%2=0) (v3:e≠0→4503599627370496*u≤v) :
 Rounds U v (e*4503599627370496+k):=by
 have hup:0<u:=by rw [hu];exact Nat.mul_pos (Nat.two_pow_pos _) (Nat.two_pow_pos _)
 have hR:rmag (e*4503599627370496+k)*2^U=k*u:=by rw [rmag_mul k e h2 h3,hu,Nat.mul_assoc]
 have hev:(e*4503599627370496+k)%2=k%2:=by omega
 have hs:∃ g,rmag (e*4503599627370496+k+1)*2^U=k*u+u+g∧(g=0∨k%2=0):=by
  rcases Nat.lt_or_ge k 9007199254740992 with h | h
  ·refine⟨0,?_,.inl rfl⟩
   rw [Nat.add_assoc,rmag_mul (k+1) e (by omega) (by omega),Nat.mul_assoc,←hu,Nat.add_mul];omega
  ·have:k=9007199254740992:=by omega
   subst this
   refine⟨u,?_,.inr (by decide)⟩
   rw [show e*4503599627370496+9007199254740992+1=(e+1)*4503599627370496+4503599627370497 by omega,rmag_mul _ (e+1) (by omega) (by omega)]
   rw [show e+1+26=(e+26)+1 by omega,Nat.pow_succ,Nat.mul_assoc,Nat.mul_assoc,Nat.mul_comm 2 (2^U),←Nat.mul_assoc (2^(e+26)),←hu]
   omega
 obtain⟨g,hs,hg⟩:=hs
 refine⟨by rw [hR,hs];omega,fun h=>?_,fun h=>?_,fun hz h=>?_⟩
 ·rw [hR,hs] at h
  rw [hev]
  rcases hg with h4 | h4
  ·exact v1e (by omega)
  ·exact h4
 ·rw [hR]
  by_cases hk:k=4503599627370496∧e≠0
  ·obtain⟨hk,he⟩:=hk
   have:=v3 he
   have hlt:rmag (e*4503599627370496+k - 1)*2^U<rmag (e*4503599627370496+k)*2^U:=Nat.mul_lt_mul_of_pos_right (Bck (by omega)) (Nat.two_pow_pos _)
   rw [hR] at hlt
   subst hk
   omega
  ·have hk0:k≠0:=by omega
   obtain⟨j,rfl⟩:∃ j,k=j+1:=⟨k - 1,by omega⟩
   rw [show e*4503599627370496+(j+1) - 1=e*4503599627370496+j by omega,rmag_mul j e (by omega) (by omega),Nat.mul_assoc,←hu]
   rw [Nat.add_mul] at v2 ⊢
   omega
 ·rw [hR] at h
  rw [hev]
  by_cases hk:k=4503599627370496∧e≠0
  ·rw [hk.1]
  ·have hk0:k≠0:=by omega
   obtain⟨j,rfl⟩:∃ j,k=j+1:=⟨k - 1,by omega⟩
   rw [show e*4503599627370496+(j+1) - 1=e*4503599627370496+j by omega,rmag_mul j e (by omega) (by omega),Nat.mul_assoc,←hu] at h
   refine v2e ?_
   rw [Nat.add_mul] at h ⊢
   omega
theorem rraw_rounds {U mag:Nat} {place:Int} (hm:mag≠0) (hp : -(1100+U:Int)≤place):Rounds U (mag*2^(place+1100+U).toNat) (rraw mag place):=by
 obtain⟨hL1,hL2⟩:=(Nat.log2_eq_iff (n:=mag) (k:=mag.log2) hm).1 rfl
 unfold rraw
 generalize mag.log2=L at *
 generalize hlast:max (place+(L:Int) - 52) (-1074)=last
 simp only
 have hl1 : -1074≤last:=by omega
 have hv3:(last+1074).toNat≠0→4503599627370496*(2^((last+1074).toNat+26)*2^U)≤mag*2^(place+1100+U).toNat:=by
  intro h
  have h1:last=place+L - 52:=by omega
  have h2:4503599627370496*(2^((last+1074).toNat+26)*2^U)=2^L*2^(place+1100+U).toNat:=by
   rw [show (4503599627370496:Nat)=2^52 from by decide,←Nat.pow_add,←Nat.pow_add,←Nat.pow_add]
   congr 1;omega
  rw [h2]
  exact Nat.mul_le_mul_right _ hL1
 rcases (by omega:place<last∨last≤place) with hlt | hge
 ·
  obtain⟨d,hd⟩:∃ d:Nat,last - place=(d:Int):=⟨(last - place).toNat,by omega⟩
  have e1:(place - last).toNat=0:=by omega
  have e2:(last - place).toNat=d:=by omega
  rw [e1,e2,Nat.shiftLeft_zero]
  obtain⟨low,rest,hn,hr,hc⟩:=cut_even false mag d hm
  rw [hc]
  obtain⟨p,hpp⟩:∃ p,2^(place+1100+U).toNat=p:=⟨_,rfl⟩
  have hp0:0<p:=hpp▸Nat.two_pow_pos _
  have hu:2^((last+1074).toNat+26)*2^U=2^d*p:=by
   rw [←hpp,←Nat.pow_add,←Nat.pow_add];congr 1;omega
  have hlow:low<9007199254740992∧((last+1074).toNat=0∨4503599627370496≤low):=by
   rcases (by omega : -1074<place+(L:Int) - 52∨place+(L:Int) - 52 ≤ -1074) with h | h
   ·have hdL:d+52=L:=by omega
    have a1:(2:Nat)^L=2^d*4503599627370496:=by rw [←hdL,Nat.pow_add]
    have a2:(2:Nat)^(L+1)=2^d*9007199254740992:=by rw [show L+1=d+53 by omega,Nat.pow_add]
    rw [a1,hn] at hL1
    rw [a2,hn] at hL2
    generalize 2^d=D at *
    refine⟨?_,.inr ?_⟩
    ·refine Nat.lt_of_mul_lt_mul_left (a:=D) ?_
     omega
    ·refine Nat.le_of_lt_succ (Nat.lt_of_mul_lt_mul_left (a:=D) ?_)
     have hms:D*(low+1)=D*low+D:=Nat.mul_succ D low
     show D*4503599627370496<D*(low+1)
     omega
   ·refine⟨?_,.inl (by omega)⟩
    have a2:(2:Nat)^(L+1)≤2^d*9007199254740992:=by
     rw [show (9007199254740992:Nat)=2^53 by decide,←Nat.pow_add]
     exact Nat.pow_le_pow_right (by omega) (by omega)
    refine Nat.lt_of_mul_lt_mul_left (a:=2^d) ?_
    omega
  obtain⟨hlow1,hlow2⟩:=hlow
  rw [hpp] at hv3 ⊢
  generalize hD:2^d=D at *
  have hv:mag*p=low*(D*p)+rest*p:=by
   rw [hn,Nat.add_mul,←Nat.mul_assoc,Nat.mul_comm low D]
  have hX:∀ a b:Nat,a*p<b*p↔a<b:=fun a b=>⟨fun h=>Nat.lt_of_mul_lt_mul_right h,fun h=>Nat.mul_lt_mul_of_pos_right h hp0⟩
  have x1:=hX D (2*rest)
  have x2:=hX (2*rest) D
  have x3:=hX rest D
  rw [Nat.mul_assoc] at x1 x2
  rw [hu] at hv3
  generalize hmore:(decide (D<2*rest) || (decide (D=2*rest) && decide (low%2=1)))=more
  have hmc:(more=true→D*p≤2*(rest*p)∧(D*p=2*(rest*p)→low%2=1))∧(more=false→2*(rest*p)≤D*p∧(2*(rest*p)=D*p→low%2=0)):=by
   rw [←hmore]
   simp only [Bool.or_eq_true,Bool.and_eq_true,decide_eq_true_iff,Bool.or_eq_false_iff,Bool.and_eq_false_iff,decide_eq_false_iff_not]
   refine⟨fun h=>⟨?_,fun g=>?_⟩,fun h=>⟨?_,fun g=>?_⟩⟩<;>omega
  have hdp:rest*p<D*p:=x3.2 hr
  refine rounds_of ?_ ?_ (D*p) hu.symm ?_ ?_ ?_ ?_ hv3
  ·cases more<;>simp<;>omega
  ·rcases hlow2 with h | h
   ·exact .inl h
   ·exact .inr (by omega)
  all_goals
   rw [hv]
   generalize rest*p=X at *
   generalize D*p=u at *
   cases more
   ·obtain⟨y1,y2⟩:=hmc.2 rfl
    simp only [Bool.toNat_false,Nat.add_zero]
    generalize low*u=Y at *
    omega
   ·obtain⟨y1,y2⟩:=hmc.1 rfl
    simp only [Bool.toNat_true,Nat.add_mul,Nat.one_mul]
    generalize low*u=Y at *
    omega
 ·
  obtain⟨d,hd⟩:∃ d:Nat,place - last=(d:Int):=⟨(place - last).toNat,by omega⟩
  have e1:(place - last).toNat=d:=by omega
  have e2:(last - place).toNat=0:=by omega
  rw [e1,e2]
  have hk:Toward.even.cut false (mag <<< d) 0=mag*2^d:=by
   have hne:mag <<< d≠0:=by
    rw [Nat.shiftLeft_eq]
    exact Nat.ne_of_gt (Nat.mul_pos (Nat.pos_of_ne_zero hm) (Nat.two_pow_pos _))
   obtain⟨low,rest,hn,hr,hc⟩:=cut_even false (mag <<< d) 0 hne
   rw [hc]
   rw [Nat.shiftLeft_eq] at hn
   simp at hn hr
   subst hr
   simp
   omega
  rw [hk]
  have hv:mag*2^(place+1100+U).toNat=mag*2^d*(2^((last+1074).toNat+26)*2^U):=by
   rw [Nat.mul_assoc,←Nat.pow_add,←Nat.pow_add]
   congr 2;omega
  have hb:mag*2^d<9007199254740992∧((last+1074).toNat=0∨4503599627370496≤mag*2^d):=by
   have b1:mag*2^d<2^(L+1)*2^d:=Nat.mul_lt_mul_of_pos_right hL2 (Nat.two_pow_pos _)
   have b2:2^L*2^d≤mag*2^d:=Nat.mul_le_mul_right _ hL1
   rw [←Nat.pow_add] at b1 b2
   have b3:(2:Nat)^(L+1+d)≤2^53:=Nat.pow_le_pow_right (by omega) (by omega)
   refine⟨by omega,?_⟩
   rcases Nat.eq_zero_or_pos (last+1074).toNat with h | h
   ·exact .inl h
   ·have b4:(2:Nat)^52≤2^(L+d):=Nat.pow_le_pow_right (by omega) (by omega)
    exact .inr (by omega)
  have hup:0<2^((last+1074).toNat+26)*2^U:=Nat.mul_pos (Nat.two_pow_pos _) (Nat.two_pow_pos _)
  rw [hv] at hv3 ⊢
  generalize hq:2^((last+1074).toNat+26)*2^U=u at *
  refine rounds_of (by omega) hb.2 u hq.symm ?_ ?_ ?_ ?_ hv3<;>generalize mag*2^d*u=Y at * <;>omega
end Go.Eng
namespace Go.Eng
open Go Ieee
theorem fN_t {w:Nat}:fN w=true↔infR<fR w:=decide_eq_true_iff
def fword (s:Bool) (r:Nat):Nat:=if s then 9223372036854775808+r else r
theorem Azk {s:Bool} {r:Nat} (h:r≤infR):fword s r<18446744073709551616:=by unfold fword infR at*;split<;>omega
theorem fR_word {s:Bool} {r:Nat} (h:r≤infR):fR (fword s r)=r:=by unfold fword fR infR at*;split<;>omega
theorem fS_word {s:Bool} {r:Nat} (h:r≤infR):fS (fword s r)=s:=by
 unfold fword fS infR at *
 cases s
 ·simp only [Bool.false_eq_true,if_false];exact decide_eq_false (by omega)
 ·simp only [if_true];exact decide_eq_true (by omega)
theorem fN_word {s:Bool} {r:Nat} (h:r≤infR):fN (fword s r)=false:=by
 unfold fN;rw [fR_word h];exact decide_eq_false (by omega)
theorem rnd_le (m:Nat) (i:Int):rnd m i≤infR:=by unfold rnd;split<;>omega
theorem nearest_w (s:Bool) (m:Nat) (i:Int):Format.nearest double s m i=fword s (rnd m i):=Baz s m i
theorem rnd_rounds {U m:Nat} {i:Int} (hp : -(1100+U:Int)≤i):∃ R,Rounds U (m*2^(i+1100+U).toNat) R∧rnd m i=min R infR:=by
 by_cases hm:m=0
 ·refine⟨0,?_,?_⟩
  ·rw [hm,Nat.zero_mul]
   have:=Rounds.exact (U:=U) 0
   rwa [Bcj,Nat.zero_mul] at this
  ·rw [hm,Nat.zero_min];exact if_pos rfl
 ·refine⟨_,rraw_rounds hm hp,?_⟩
  unfold rnd;rw [if_neg hm]
theorem read_fin {w:Nat} (hw:w<18446744073709551616) (h:fR w<infR):∃ m i,Format.read double w = .number (fS w) m i ∧ -1074≤i∧m*2^(i+1100).toNat=rmag (fR w):=by
 have hr:=rd_of hw
 have hi := @read_num w
 generalize Format.read double w=x at hr hi
 cases hr with
 | nan h1=>have:=fN_t.1 h1;omega
 | inf h1 h2=>omega
 | @num m i h1 h2 h3 h4 =>
   refine⟨m,i,rfl,(hi rfl).1,?_⟩
   rw [fval_eq] at h4
   exact Int.ofNat_inj.1 h4
end Go.Eng
namespace Go.Eng
open Go Ieee
theorem rmag_le {a b:Nat} (h:a≤b):rmag a≤rmag b:=by
 rcases Nat.lt_or_ge a b with g | g
 ·exact Nat.le_of_lt (Bck g)
 ·have:a=b:=by omega
  rw [this];exact Nat.le_refl _
end Go.Eng
namespace Go.Eng
open Go Ieee
theorem rung_form (R:Nat):∃ e k,R=e*4503599627370496+k∧k<9007199254740992∧(e=0∨4503599627370496≤k):=by
 rcases Nat.lt_or_ge R 4503599627370496 with h | h
 ·exact⟨0,R,by omega,by omega,.inl rfl⟩
 ·exact⟨R / 4503599627370496 - 1,R%4503599627370496+4503599627370496,by omega,by omega,.inr (by omega)⟩
theorem mid_form (R:Nat):∃ e k,k<9007199254740992∧rmag R+rmag (R+1)=(2*k+1)*2^(e+26):=by
 obtain⟨e,k,rfl,h2,h3⟩:=rung_form R
 refine⟨e,k,h2,?_⟩
 rw [Nat.add_assoc,rmag_mul k e (by omega) h3,rmag_mul (k+1) e (by omega) (by omega),←Nat.add_mul]
 congr 1;omega
structure RoundsD (D v R:Nat):Prop where
 up:2*v≤(rmag R+rmag (R+1))*D
 upe:2*v=(rmag R+rmag (R+1))*D→R%2=0
 dn:R≠0→(rmag (R - 1)+rmag R)*D≤2*v
 dne:R≠0→(rmag (R - 1)+rmag R)*D=2*v→R%2=0
theorem RoundsD.mono {D D' v v' R R':Nat} (h:RoundsD D v R) (h':RoundsD D' v' R') (hD:0<D) (hD':0<D') (hv:v*D'≤v'*D):R≤R':=by
 refine Classical.byContradiction fun hn=>?_
 have hlt:R'<R:=by omega
 have m1:rmag R'≤rmag (R - 1):=rmag_le (by omega)
 have m2:rmag (R'+1)≤rmag R:=rmag_le (by omega)
 have p:=Nat.mul_pos hD hD'
 have a1:2*v'*D≤(rmag R'+rmag (R'+1))*(D*D'):=by
  have:=Nat.mul_le_mul_right D h'.up
  rwa [Nat.mul_assoc _ D' D,Nat.mul_comm D' D] at this
 have a2:(rmag (R - 1)+rmag R)*(D*D')≤2*v*D':=by
  have:=Nat.mul_le_mul_right D' (h.dn (by omega))
  rwa [Nat.mul_assoc _ D D'] at this
 have a3:(rmag R'+rmag (R'+1))*(D*D')≤(rmag (R - 1)+rmag R)*(D*D'):=Nat.mul_le_mul_right _ (by omega)
 have a4:2*v*D'≤2*v'*D:=by rw [Nat.mul_assoc,Nat.mul_assoc];omega
 have e0:(rmag R'+rmag (R'+1))=(rmag (R - 1)+rmag R):=Nat.eq_of_mul_eq_mul_right p (by omega)
 have e4:rmag R'=rmag (R - 1):=by omega
 have e5:R'=R - 1:=(AlS _ _).2.1 e4
 have b1:=h'.upe (by
  refine Nat.eq_of_mul_eq_mul_right hD ?_
  rw [Nat.mul_assoc _ D' D,Nat.mul_comm D' D];omega)
 have b2:=h.dne (by omega) (by
  refine Nat.eq_of_mul_eq_mul_right hD' ?_
  rw [Nat.mul_assoc _ D D'];omega)
 omega
theorem RoundsD.exact {D:Nat} (R:Nat) (hD:0<D):RoundsD D (rmag R*D) R:=by
 have h1:rmag R*D<rmag (R+1)*D:=Nat.mul_lt_mul_of_pos_right (Bck (by omega)) hD
 refine⟨by rw [Nat.add_mul];omega,by rw [Nat.add_mul];omega,fun h=>?_,fun h=>?_⟩
 ·have h2:rmag (R - 1)*D<rmag R*D:=Nat.mul_lt_mul_of_pos_right (Bck (by omega)) hD
  rw [Nat.add_mul];omega
 ·have h2:rmag (R - 1)*D<rmag R*D:=Nat.mul_lt_mul_of_pos_right (Bck (by omega)) hD
  rw [Nat.add_mul];omega
theorem far_below {B D P n T dv K:Nat} (hD:0<D) (hn:0<n) (h2:B*P<K*2*(2*T)) (h3:K*n≤dv):B*D*(P*n)<dv*(2*(D*(2*T))):=by
 have e1:B*D*(P*n)=B*P*(D*n):=Nat.mul_mul_mul_comm _ _ _ _
 have e2:K*2*(2*T)*(D*n)=K*n*(2*(D*(2*T))):=by
  rw [Nat.mul_assoc K 2,Nat.mul_assoc K,Nat.mul_assoc K n]
  congr 1
  rw [Nat.mul_comm D n,←Nat.mul_assoc,Nat.mul_comm _ n,Nat.mul_assoc n]
  congr 1
  rw [Nat.mul_assoc,Nat.mul_comm (2*T) D]
 rw [e1]
 refine Nat.lt_of_lt_of_le (Nat.mul_lt_mul_of_pos_right h2 (Nat.mul_pos hD hn)) ?_
 rw [e2]
 exact Nat.mul_le_mul_right _ h3
theorem sticky {U R q f st n dv t N D:Nat} (hn:0<n) (hq:q=2*f+st) (hs:(dv%n≠0→st=1)∧(dv%n=0→st=0)) (hf:f=dv / n) (hbig:9007199254740992≤f)
 (hr:Rounds U (q*2^t) R) (hD:0<D) (hv:N*2^U*n=D*(dv*2^(t+1))):RoundsD D N R:=by
 have hdm:=Nat.div_add_mod dv n
 rw [←hf] at hdm
 have hml:=Nat.mod_lt dv hn
 have hst:st≤1:=by rcases Nat.eq_zero_or_pos (dv%n) with h | h<;>omega
 have hU:=Nat.two_pow_pos U
 obtain⟨T,hT⟩:∃ T,2^t=T:=⟨_,rfl⟩
 have hT0:0<T:=hT▸Nat.two_pow_pos t
 have e1:2^(t+1)=2*T:=by rw [Nat.pow_succ,hT,Nat.mul_comm]
 rw [e1] at hv
 rw [hT] at hr
 have al:∀ e k,t+2≤e+26+U→∃ c,(2*k+1)*2^(e+26)*2^U=c*(4*T):=by
  intro e k h
  refine⟨(2*k+1)*2^(e+26+U - (t+2)),?_⟩
  rw [Nat.mul_assoc,←Nat.pow_add,Nat.mul_assoc]
  congr 1
  rw [←hT,show (4:Nat)*2^t=2^(t+2) by rw [Nat.pow_add];omega,←Nat.pow_add]
  congr 1;omega
 have hX:N*2^U*n=dv*(D*(2*T)):=by rw [hv];ac_rfl
 have up1:∀ c,q*T*2≤c*(4*T)→dv≤c*n:=by
  intro c h
  have h1:q≤2*c:=by
   refine Nat.le_of_mul_le_mul_right (c:=2*T) ?_ (by omega)
   calc q*(2*T)=q*T*2:=by ac_rfl
    _≤c*(4*T):=h
    _=2*c*(2*T):=by rw [show (4:Nat)=2*2 from rfl];ac_rfl
  have h2:f+st≤c:=by omega
  have h3:(f+st)*n≤c*n:=Nat.mul_le_mul_right _ h2
  rw [Nat.add_mul,Nat.mul_comm f n] at h3
  rcases Nat.eq_zero_or_pos (dv%n) with g | g
  ·have:=Nat.zero_le (st*n);omega
  ·rw [hs.1 (by omega),Nat.one_mul] at h3;omega
 have dn1:∀ c,c*(4*T)≤q*T*2→c*n≤dv:=by
  intro c h
  have h1:2*c≤q:=by
   refine Nat.le_of_mul_le_mul_right (c:=2*T) ?_ (by omega)
   calc 2*c*(2*T)=c*(4*T):=by rw [show (4:Nat)=2*2 from rfl];ac_rfl
    _≤q*T*2:=h
    _=q*(2*T):=by ac_rfl
  have h2:c≤f:=by omega
  have h3:n*c≤n*f:=Nat.mul_le_mul_left _ h2
  rw [Nat.mul_comm c n];omega
 have eq1:∀ c,dv=c*n→q*T*2=c*(4*T):=by
  intro c h
  have g:dv%n=0:=by rw [h];exact Nat.mul_mod_left _ _
  have h2:f=c:=by rw [hf,h];exact Nat.mul_div_cancel _ hn
  rw [hq,hs.2 g,h2,show (4:Nat)=2*2 from rfl,Nat.add_zero];ac_rfl
 have cr:∀ B c,B*2^U=c*(4*T)→(B*D)*(2^U*n)=(c*n)*(2*(D*(2*T))):=by
  intro B c h
  calc (B*D)*(2^U*n)=(B*2^U)*(D*n):=by ac_rfl
   _=(c*n)*(2*(D*(2*T))):=by rw [h,show (4:Nat)=2*2 from rfl];ac_rfl
 have hN:2*N*(2^U*n)=dv*(2*(D*(2*T))):=by
  calc 2*N*(2^U*n)=2*(N*2^U*n):=by ac_rfl
   _=dv*(2*(D*(2*T))):=by rw [hX];ac_rfl
 have hpn:0<2^U*n:=Nat.mul_pos hU hn
 have hpd:0<2*(D*(2*T)):=by
  have:=Nat.mul_pos hD (show 0<2*T by omega);omega
 obtain⟨e,k,hk,hB⟩:=mid_form R
 have hup:=hr.up
 rw [←Nat.add_mul,hB] at hup
 have hal:t+2≤e+26+U:=by
  have h1:18014398509481984*T*2≤q*T*2:=Nat.mul_le_mul_right _ (Nat.mul_le_mul_right _ (by omega))
  have h2:(2*k+1)*2^(e+26)*2^U<18014398509481984*2^(e+26+U):=by
   rw [Nat.mul_assoc,←Nat.pow_add]
   exact Nat.mul_lt_mul_of_pos_right (by omega) (Nat.two_pow_pos _)
  have h3:18014398509481984*(T*2)<18014398509481984*2^(e+26+U):=by
   have e9:18014398509481984*T*2=18014398509481984*(T*2):=Nat.mul_assoc _ _ _
   omega
  have h4:=Nat.lt_of_mul_lt_mul_left h3
  rw [←hT,←Nat.pow_succ] at h4
  have:=(Nat.pow_lt_pow_iff_right (a:=2) (by omega)).1 h4
  omega
 obtain⟨c,hc⟩:=al e k hal
 refine⟨?_,fun h=>?_,fun hz=>?_,fun hz h=>?_⟩
 ·rw [hB]
  have h1:=up1 c (by rw [←hc];omega)
  refine Nat.le_of_mul_le_mul_right (c:=2^U*n) ?_ hpn
  rw [hN,cr _ c hc]
  exact Nat.mul_le_mul_right _ h1
 ·rw [hB] at h
  have h1:dv=c*n:=by
   refine Nat.eq_of_mul_eq_mul_right hpd ?_
   rw [←hN,←cr _ c hc,h]
  refine hr.upe ?_
  rw [←Nat.add_mul,hB,hc,←eq1 c h1];omega
 all_goals
  obtain⟨e',k',hk',hB'⟩:=mid_form (R - 1)
  rw [show R - 1+1=R by omega] at hB'
  have hdn:=hr.dn hz
  rw [←Nat.add_mul,hB'] at hdn
  rcases Nat.lt_or_ge (e'+26+U) (t+2) with g | g
  ·
   have h2:(2*k'+1)*2^(e'+26)*2^U<9007199254740992*2*(2*T):=by
    rw [Nat.mul_assoc,←Nat.pow_add,←e1]
    refine Nat.lt_of_lt_of_le (Nat.mul_lt_mul_of_pos_right (show 2*k'+1<9007199254740992*2 by omega) (Nat.two_pow_pos _)) ?_
    exact Nat.mul_le_mul_left _ (Nat.pow_le_pow_right (by omega) (by omega))
   have h3:9007199254740992*n≤dv:=by
    have:=Nat.mul_le_mul_left n hbig
    rw [Nat.mul_comm 9007199254740992 n];omega
   have h4:((2*k'+1)*2^(e'+26)*D)*(2^U*n)<2*N*(2^U*n):=by
    rw [hN];exact far_below hD hn h2 h3
   have h5:=Nat.lt_of_mul_lt_mul_right h4
   rw [←hB'] at h5
   omega
  ·obtain⟨c',hc'⟩:=al e' k' g
   have h1:=dn1 c' (by rw [←hc'];omega)
   first
   | (rw [hB']
      refine Nat.le_of_mul_le_mul_right (c:=2^U*n) ?_ hpn
      rw [hN,cr _ c' hc']
      exact Nat.mul_le_mul_right _ h1)
   | (rw [hB'] at h
      have h1:dv=c'*n:=by
       refine Nat.eq_of_mul_eq_mul_right hpd ?_
       rw [←hN,←cr _ c' hc',h]
      refine hr.dne hz ?_
      rw [←Nat.add_mul,hB',hc',←eq1 c' h1];omega)
theorem read_fin2 {w:Nat} (hw:w<18446744073709551616) (h:fR w<infR):∃ m i,Format.read double w = .number (fS w) m i ∧ -1074≤i∧i≤1000∧m<2^53∧m*2^(i+1100).toNat=rmag (fR w):=by
 obtain⟨m,i,h1,h2,h3⟩:=read_fin hw h
 obtain⟨g1,g2,g3⟩:=read_num h1
 exact⟨m,i,h1,g1,g2,g3,h3⟩
theorem rmag_pos {r:Nat} (h:r≠0):0<rmag r:=by
 have:=Bck (show 0<r by omega)
 omega
def pw (k:Nat):Nat:=2^k
theorem pw_eq (k:Nat):pw k=2^k:=rfl
theorem pw_pos (k:Nat):0<pw k:=Nat.two_pow_pos k
theorem pw_add (a b:Nat):pw (a+b)=pw a*pw b:=Nat.pow_add 2 a b
theorem rmag_mulp (k e:Nat) (h:k≤9007199254740992) (h2:e=0∨4503599627370496≤k):rmag (e*4503599627370496+k)=k*pw (e+26):=rmag_mul k e h h2
theorem pw_52:4503599627370496=pw 52:=by decide
theorem pw_2:4=pw 2:=by decide
theorem pw_64:18446744073709551616=pw 64:=by decide
theorem div_word {a b:Nat} (ha:a<18446744073709551616) (hb:b<18446744073709551616) (haf:fR a<infR) (hbf:fR b<infR) (hb0:fR b≠0) :
 ∃ R,FloatKind.f64.format.div a b=some (fword (fS a ^^ fS b) (min R infR))∧RoundsD (rmag (fR b)) (rmag (fR a)*pw 1100) R:=by
 obtain⟨m,i,e1,g1,g1',m1,h1⟩:=read_fin2 ha haf
 obtain⟨n,j,e2,g2,g2',n1,h2⟩:=read_fin2 hb hbf
 have hD:=rmag_pos hb0
 have hn0:n≠0:=by rintro rfl;rw [Nat.zero_mul] at h2;omega
 have hdiv:FloatKind.f64.format.div a b=some (fword (fS a ^^ fS b) (rnd (2*((m <<< (54+n.log2 - m.log2)) / n)+((m <<< (54+n.log2 - m.log2))%n != 0).toNat) (i - j - ((54+n.log2 - m.log2:Nat):Int) - 1))):=by
  show ((Format.read double a).quotient 54 (Format.read double b)).map (Format.write double)=_
  rw [e1,e2]
  simp only [Datum.quotient,if_neg hn0,Option.map_some]
  show some (Format.nearest double _ _ _)=_
  rw [nearest_w]
 rcases Nat.eq_zero_or_pos m with hm | hm
 ·refine⟨0,?_,?_⟩
  ·rw [hdiv,hm];simp [rnd]
  ·rw [←h1,hm,Nat.zero_mul,Nat.zero_mul]
   have:=RoundsD.exact 0 hD
   rwa [Bcj,Nat.zero_mul] at this
 ·obtain⟨hL1,hL2⟩:=(Nat.log2_eq_iff (n:=m) (k:=m.log2) (by omega)).1 rfl
  obtain⟨hM1,hM2⟩:=(Nat.log2_eq_iff (n:=n) (k:=n.log2) hn0).1 rfl
  have hlm:m.log2≤52:=by
   have:(2:Nat)^m.log2<2^53:=by omega
   have:=(Nat.pow_lt_pow_iff_right (a:=2) (by omega)).1 this
   omega
  have hln:n.log2≤52:=by
   have:(2:Nat)^n.log2<2^53:=by omega
   have:=(Nat.pow_lt_pow_iff_right (a:=2) (by omega)).1 this
   omega
  generalize m.log2=lm at *
  generalize n.log2=ln at *
  obtain⟨more,hmore⟩:∃ x,54+ln - lm=x:=⟨_,rfl⟩
  rw [hmore] at hdiv
  rw [Nat.shiftLeft_eq] at hdiv
  obtain⟨U,hU⟩:∃ U:Nat,U=2400:=⟨_,rfl⟩
  obtain⟨R,r1,r2⟩:=rnd_rounds (U:=U) (m:=2*((m*2^more) / n)+((m*2^more)%n != 0).toNat) (i:=i - j - (more:Int) - 1) (by omega)
  refine⟨R,by rw [hdiv,r2],?_⟩
  refine sticky (f:=m*2^more / n) (dv:=m*2^more) (U:=U) (n:=n) (by omega) rfl ⟨fun h=>?_,fun h=>?_⟩ rfl ?_ r1 hD ?_
  ·rw [bne_iff_ne.2 h];rfl
  ·rw [h];rfl
  ·rw [Nat.le_div_iff_mul_le (by omega)]
   calc 9007199254740992*n≤2^53*2^(ln+1):=Nat.mul_le_mul (by omega) (by omega)
    _=2^lm*2^more:=by rw [←Nat.pow_add,←Nat.pow_add];congr 1;omega
    _≤m*2^more:=Nat.mul_le_mul_right _ hL1
  ·rw [←h1,←h2]
   obtain⟨V,hV⟩:∃ V:Nat,V=1100:=⟨_,rfl⟩
   rw [←hV,pw_eq]
   have e:2^(i+1100).toNat*2^V*2^U=2^(j+1100).toNat*2^more*2^((i - j - (more:Int) - 1+1100+(U:Int)).toNat+1):=by
    rw [←Nat.pow_add,←Nat.pow_add,←Nat.pow_add,←Nat.pow_add];congr 1;omega
   calc m*2^(i+1100).toNat*2^V*2^U*n=m*n*(2^(i+1100).toNat*2^V*2^U):=by ac_rfl
    _=_:=by rw [e];ac_rfl
end Go.Eng
namespace Go.Eng
open Go Ieee
attribute [local irreducible] pw
theorem near_w (n:Nat):FloatKind.nearest .f64 (n:Int)=fword false (rnd n 0):=by
 show Format.nearest double (decide ((n:Int)<0)) (n:Int).natAbs 0=_
 rw [decide_eq_false (by omega),Int.natAbs_natCast,nearest_w]
theorem rmag_two (k:Nat) (h:1≤k):rmag (k*4503599627370496)=pw (k+77):=by
 have h1:=rmag_mul 4503599627370496 (k - 1) (by omega) (.inr (by omega))
 rw [show (k - 1)*4503599627370496+4503599627370496=k*4503599627370496 by omega] at h1
 rw [h1,show (4503599627370496:Nat)=pw 52 from pw_52,←pw_eq,←pw_add]
 congr 1;omega
theorem rmag_dbl {r:Nat} (h:4503599627370496≤r):rmag (r+4503599627370496)=2*rmag r:=by
 unfold rmag
 rw [if_neg (by omega),if_neg (by omega),show (r+4503599627370496)%4503599627370496=r%4503599627370496 by omega,show (r+4503599627370496) / 4503599627370496=r / 4503599627370496+1 by omega,
  show r / 4503599627370496+1+25=(r / 4503599627370496+25)+1 by omega,Nat.pow_succ]
 generalize 2^(r / 4503599627370496+25)=p
 rw [Nat.mul_comm p 2,←Nat.mul_assoc,Nat.mul_comm _ 2,Nat.mul_assoc]
theorem whole_rounds (n:Nat):∃ R,Rounds 0 (n*pw 1100) R∧rnd n 0=min R infR:=by
 obtain⟨R,h1,h2⟩:=rnd_rounds (U:=0) (m:=n) (i:=0) (by omega)
 rw [←pw_eq] at h1
 exact⟨R,h1,h2⟩
theorem whole_ge {n:Nat} (h:1≤n):1023*4503599627370496≤rnd n 0:=by
 obtain⟨R,h1,h2⟩:=whole_rounds n
 have h3:=(Rounds.exact (U:=0) (1023*4503599627370496)).mono h1 (by
  rw [rmag_two 1023 (by omega),Nat.pow_zero,Nat.mul_one]
  show pw 1100≤n*pw 1100
  exact Nat.le_mul_of_pos_left _ h)
 rw [h2];unfold infR;omega
theorem whole_le {n:Nat} (h:n≤18446744073709551616):rnd n 0≤1087*4503599627370496:=by
 obtain⟨R,h1,h2⟩:=whole_rounds n
 have h3:=h1.mono (Rounds.exact (U:=0) (1087*4503599627370496)) (by
  rw [rmag_two 1087 (by omega),Nat.pow_zero,Nat.mul_one]
  rw [show 1087+77=64+1100 from rfl,pw_add,←pw_64]
  exact Nat.mul_le_mul_right _ h)
 rw [h2];omega
theorem whole_word {n:Nat} (h:n<18446744073709551616):FloatKind.nearest .f64 (n:Int)<18446744073709551616∧fS (FloatKind.nearest .f64 (n:Int))=false∧fR (FloatKind.nearest .f64 (n:Int))=rnd n 0∧rnd n 0<infR:=by
 have h1:=whole_le (n:=n) (by omega)
 rw [near_w]
 refine⟨Azk (rnd_le _ _),fS_word (rnd_le _ _),fR_word (rnd_le _ _),?_⟩
 unfold infR;omega
theorem add_fin {a b:Nat} (ha:a<18446744073709551616) (hb:b<18446744073709551616) (haf:fR a<infR) (hbf:fR b<infR) (sa:fS a=false) (sb:fS b=false) :
 ∃ R,FloatKind.f64.format.add a b=some (fword false (min R infR))∧Rounds 0 (rmag (fR a)+rmag (fR b)) R:=by
 obtain⟨m,i,e1,g1,h1⟩:=read_fin ha haf
 obtain⟨n,j,e2,g2,h2⟩:=read_fin hb hbf
 rw [sa] at e1
 rw [sb] at e2
 obtain⟨d,hd⟩:∃ d,min i j=d:=⟨_,rfl⟩
 obtain⟨p,hp⟩:∃ p,m <<< (i - d).toNat+n <<< (j - d).toNat=p:=⟨_,rfl⟩
 have hadd:FloatKind.f64.format.add a b=some (fword false (rnd p d)):=by
  show ((Format.read double a).sum (Format.read double b)).map (Format.write double)=_
  rw [e1,e2]
  simp only [Datum.sum,Option.map_some,signed,Bool.false_eq_true,if_false,Bool.and_self,hd]
  rw [←Int.natCast_add,hp,Int.natAbs_natCast]
  show some (Format.nearest double _ _ _)=_
  rw [nearest_w]
  congr 2
  split
  ·rfl
  ·exact decide_eq_false (by omega)
 obtain⟨R,r1,r2⟩:=rnd_rounds (U:=0) (m:=p) (i:=d) (by omega)
 refine⟨R,by rw [hadd,r2],?_⟩
 have e:p*2^(d+1100+((0:Nat):Int)).toNat=rmag (fR a)+rmag (fR b):=by
  rw [←hp,Nat.add_mul,Nat.shiftLeft_eq,Nat.shiftLeft_eq,Nat.mul_assoc,Nat.mul_assoc,←Nat.pow_add,←Nat.pow_add,←h1,←h2]
  congr 3<;>omega
 rwa [e] at r1
theorem sub_fin {a b:Nat} (ha:a<18446744073709551616) (hb:b<18446744073709551616) (haf:fR a<infR) (hbf:fR b<infR) (sa:fS a=false) (sb:fS b=false) :
 ∃ s R,FloatKind.f64.format.sub a b=some (fword s (min R infR))∧Rounds 0 ((rmag (fR a) - rmag (fR b))+(rmag (fR b) - rmag (fR a))) R:=by
 obtain⟨m,i,e1,g1,h1⟩:=read_fin ha haf
 obtain⟨n,j,e2,g2,h2⟩:=read_fin hb hbf
 rw [sa] at e1
 rw [sb] at e2
 obtain⟨d,hd⟩:∃ d,min i j=d:=⟨_,rfl⟩
 obtain⟨p,hp⟩:∃ p,m <<< (i - d).toNat=p:=⟨_,rfl⟩
 obtain⟨q,hq⟩:∃ q,n <<< (j - d).toNat=q:=⟨_,rfl⟩
 have hsub:∃ s,FloatKind.f64.format.sub a b=some (fword s (rnd ((p - q)+(q - p)) d)):=by
  show∃s,((Format.read double a).sum (Format.read double b).opposite).map (Format.write double)=_
  rw [e1,e2]
  simp only [Datum.sum,Datum.opposite,Option.map_some,signed,Bool.false_eq_true,if_false,Bool.not_false,if_true,hd,hp,hq]
  rw [show ((p:Int) + -(q:Int)).natAbs=(p - q)+(q - p) by omega]
  exact⟨_,congrArg some (nearest_w _ _ _)⟩
 obtain⟨s,hsub⟩:=hsub
 obtain⟨R,r1,r2⟩:=rnd_rounds (U:=0) (m:=(p - q)+(q - p)) (i:=d) (by omega)
 refine⟨s,R,by rw [hsub,r2],?_⟩
 have ep:p*2^(d+1100+((0:Nat):Int)).toNat=rmag (fR a):=by
  rw [←hp,Nat.shiftLeft_eq,Nat.mul_assoc,←Nat.pow_add,←h1]
  congr 2;omega
 have eq:q*2^(d+1100+((0:Nat):Int)).toNat=rmag (fR b):=by
  rw [←hq,Nat.shiftLeft_eq,Nat.mul_assoc,←Nat.pow_add,←h2]
  congr 2;omega
 rwa [Nat.add_mul,Nat.sub_mul,Nat.sub_mul,ep,eq] at r1
end Go.Eng
namespace Go.Eng
open Go Ieee
attribute [local irreducible] pw
theorem gap_abs {R e:Nat} (h:R+1≤(e+1)*4503599627370496) (he:1≤e):rmag (R+1)≤rmag R+pw (e+25):=by
 obtain⟨f,k,rfl,h2,h3⟩:=rung_form R
 rw [Nat.add_assoc,rmag_mul k f (by omega) h3,rmag_mul (k+1) f (by omega) (by omega),Nat.add_mul,Nat.one_mul,pw_eq]
 refine Nat.add_le_add_left (Nat.pow_le_pow_right (by omega) ?_) _
 omega
theorem gap_rel {R:Nat} (h:4503599627370496≤R):rmag (R+1)*4503599627370496≤rmag R*4503599627370497:=by
 obtain⟨f,k,rfl,h2,h3⟩:=rung_form R
 have hk:4503599627370496≤k:=by rcases h3 with g | g<;>omega
 rw [Nat.add_assoc,rmag_mul k f (by omega) h3,rmag_mul (k+1) f (by omega) (by omega)]
 generalize 2^(f+26)=p
 have:4503599627370496*p≤k*p:=Nat.mul_le_mul_right _ hk
 rw [Nat.add_mul,Nat.one_mul]
 generalize k*p=y at *
 omega
theorem near_abs {ε D V R:Nat} (hε:pw 1048=ε) (h:RoundsD D V R) (hR:R≤1023*4503599627370496):V≤rmag R*D+ε*D∧rmag R*D≤V+ε*D:=by
 have g1:=gap_abs (R:=R) (e:=1023) (by omega) (by omega)
 rw [show 1023+25=1048 from rfl,hε] at g1
 have a1:=h.up
 rw [Nat.add_mul] at a1
 have a2:rmag (R+1)*D≤rmag R*D+ε*D:=by rw [←Nat.add_mul];exact Nat.mul_le_mul_right _ g1
 refine⟨by omega,?_⟩
 rcases Nat.eq_zero_or_pos R with h0 | h0
 ·rw [h0,Bcj,Nat.zero_mul];exact Nat.zero_le _
 ·have a3:=h.dn (by omega)
  have g2:=gap_abs (R:=R - 1) (e:=1023) (by omega) (by omega)
  rw [show R - 1+1=R by omega,show 1023+25=1048 from rfl,hε] at g2
  rw [Nat.add_mul] at a3
  have a4:rmag R*D≤rmag (R - 1)*D+ε*D:=by rw [←Nat.add_mul];exact Nat.mul_le_mul_right _ g2
  omega
theorem lin_up {v r r1:Nat} (C:Nat) (h1:2*v≤r+r1) (h2:r1*C≤r*(C+1)):2*v*C≤r*(2*C+1):=by
 have a:=Nat.mul_le_mul_right C h1
 rw [Nat.add_mul] at a
 rw [Nat.mul_add,Nat.mul_one] at h2 ⊢
 rw [Nat.mul_left_comm r 2 C]
 omega
theorem lin_dn {v r r1:Nat} (C:Nat) (h0:r1≤r) (h1:r1+r≤2*v) (h2:r*C≤r1*(C+1)):r*(2*C - 1)≤2*v*C:=by
 have a:=Nat.mul_le_mul_right C h1
 rw [Nat.add_mul] at a
 rw [Nat.mul_add,Nat.mul_one] at h2
 rw [Nat.mul_sub,Nat.mul_one,Nat.mul_left_comm r 2 C]
 omega
theorem sum_near {n m:Nat} (hn:n<18446744073709551616) (hm:m<18446744073709551616) (h0:0<n+m) :
 ∃ R,FloatKind.f64.format.add (FloatKind.nearest .f64 (n:Int)) (FloatKind.nearest .f64 (m:Int))=some (fword false R)∧R<infR∧R≠0∧Rounds 0 (rmag (rnd n 0)+rmag (rnd m 0)) R ∧
  2*(rmag (rnd n 0)+rmag (rnd m 0))*4503599627370496≤rmag R*9007199254740993∧rmag R*9007199254740991≤2*(rmag (rnd n 0)+rmag (rnd m 0))*4503599627370496∧rmag (rnd n 0)≤rmag R:=by
 obtain⟨aw,as,ar,af⟩:=whole_word hn
 obtain⟨bw,bs,br,bf⟩:=whole_word hm
 have la:=whole_le (n:=n) (by omega)
 have lb:=whole_le (n:=m) (by omega)
 have hg:1023*4503599627370496≤rnd n 0∨1023*4503599627370496≤rnd m 0:=by
  rcases Nat.eq_zero_or_pos n with h | h
  ·exact .inr (whole_ge (by omega))
  ·exact .inl (whole_ge (by omega))
 obtain⟨R,a1,a2⟩:=add_fin aw bw (by omega) (by omega) as bs
 rw [ar,br] at a2
 generalize rnd n 0=F at *
 generalize rnd m 0=G at *
 have z1:=a2.mono (Rounds.exact (U:=0) (1088*4503599627370496)) (by
  have e1:=rmag_le la
  have e2:=rmag_le lb
  have e3:rmag (1088*4503599627370496)=2*rmag (1087*4503599627370496):=by
   rw [show 1088*4503599627370496=1087*4503599627370496+4503599627370496 from rfl];exact rmag_dbl (by omega)
  rw [e3];omega)
 have z2:F≤R:=(Rounds.exact (U:=0) F).mono a2 (by omega)
 have z3:G≤R:=(Rounds.exact (U:=0) G).mono a2 (by omega)
 have hr:R<infR:=by unfold infR;omega
 refine⟨R,by rw [a1,Nat.min_eq_left (by omega)],hr,by omega,a2,?_,?_,rmag_le z2⟩
 ·have h1:=a2.up
  have h2:=gap_rel (R:=R) (by omega)
  rw [Nat.pow_zero,Nat.mul_one,Nat.mul_one] at h1
  exact lin_up 4503599627370496 h1 h2
 ·have h1:=a2.dn (by omega)
  have h2:=gap_rel (R:=R - 1) (by omega)
  rw [show R - 1+1=R by omega] at h2
  rw [Nat.pow_zero,Nat.mul_one,Nat.mul_one] at h1
  exact lin_dn 4503599627370496 (rmag_le (by omega)) h1 h2
theorem share_near {ε n D S:Nat} (hε:pw 1048=ε) (hn:n<18446744073709551616) (hS:S<infR) (h0:S≠0) (hD:rmag S=D) (hle:rmag (rnd n 0)≤D) :
 ∃ R,FloatKind.f64.format.div (FloatKind.nearest .f64 (n:Int)) (fword false S)=some (fword false R)∧R≤1023*4503599627370496 ∧
  rmag (rnd n 0)*(4503599627370496*ε)≤rmag R*D+ε*D∧rmag R*D≤rmag (rnd n 0)*(4503599627370496*ε)+ε*D:=by
 obtain⟨aw,as,ar,af⟩:=whole_word hn
 obtain⟨R,d1,d2⟩:=div_word (b:=fword false S) aw (Azk (by omega)) (by omega) (by rw [fR_word (by omega)];exact hS) (by rw [fR_word (by omega)];exact h0)
 rw [fR_word (by omega),ar,hD] at d2
 have hp:=rmag_pos h0
 have e0:pw 1100=4503599627370496*ε:=by
  rw [←hε,show (4503599627370496:Nat)=pw 52 from pw_52,←pw_add]
 rw [e0] at d2
 have e1:R≤1023*4503599627370496:=d2.mono (RoundsD.exact (D:=1) _ (by omega)) (by omega) (by omega) (by
  rw [rmag_two 1023 (by omega),show 1023+77=1100 from rfl,e0,Nat.mul_one,Nat.mul_one,Nat.mul_comm]
  exact Nat.mul_le_mul_left _ hle)
 obtain⟨n1,n2⟩:=near_abs hε d2 e1
 refine⟨R,?_,e1,n1,n2⟩
 rw [d1,as,fS_word (by omega),Nat.min_eq_left (by unfold infR;omega)];rfl
theorem shares_sum {n m:Nat} (hn:n<18446744073709551616) (hm:m<18446744073709551616) (h0:0<n+m) :
 ∃ s t X Y Z g d,FloatKind.f64.format.add (FloatKind.nearest .f64 (n:Int)) (FloatKind.nearest .f64 (m:Int))=some s∧FloatKind.f64.format.add (FloatKind.nearest .f64 (m:Int)) (FloatKind.nearest .f64 (n:Int))=some t ∧
  FloatKind.f64.format.div (FloatKind.nearest .f64 (n:Int)) s=some (fword false X)∧FloatKind.f64.format.div (FloatKind.nearest .f64 (m:Int)) t=some (fword false Y) ∧
  X≤1023*4503599627370496∧Y≤1023*4503599627370496 ∧
  FloatKind.f64.format.add (fword false X) (fword false Y)=some (fword false Z)∧Z≤infR∧FloatKind.f64.format.sub (fword false Z) 4607182418800017408=some (fword g d)∧d≤973*4503599627370496:=by
 obtain⟨ε,hε⟩:∃ ε:Nat,pw 1048=ε:=⟨_,rfl⟩
 obtain⟨S,s1,s2,s3,s4,s5,s6,s7⟩:=sum_near hn hm h0
 obtain⟨T,t1,t2,t3,t4,t5,t6,t7⟩:=sum_near hm hn (by omega)
 rw [Nat.add_comm (rmag (rnd m 0))] at t4
 have e:T=S:=t4.uniq s4
 subst e
 obtain⟨D,hD⟩:∃ D,rmag T=D:=⟨_,rfl⟩
 have hDp:0<D:=hD▸rmag_pos s3
 rw [hD] at s5 s6 s7 t7
 obtain⟨X,x1,x2,x3,x4⟩:=share_near hε hn s2 s3 hD s7
 obtain⟨Y,y1,y2,y3,y4⟩:=share_near hε hm s2 s3 hD t7
 generalize rmag (rnd n 0)=A at *
 generalize rmag (rnd m 0)=B at *
 have hX:X≤infR:=by unfold infR;omega
 have hY:Y≤infR:=by unfold infR;omega
 have u1:2*(rmag X+rmag Y)≤9007199254740997*ε:=by
  refine Nat.le_of_mul_le_mul_right (c:=D) ?_ hDp
  have h1:2*(A+B)*4503599627370496*ε≤D*9007199254740993*ε:=Nat.mul_le_mul_right _ s5
  have e1:2*(A+B)*4503599627370496*ε=2*(A*(4503599627370496*ε)+B*(4503599627370496*ε)):=by rw [←Nat.add_mul,Nat.mul_assoc,Nat.mul_assoc]
  have e2:D*9007199254740993*ε=9007199254740993*(ε*D):=by rw [Nat.mul_comm D,Nat.mul_assoc,Nat.mul_comm D]
  rw [e1,e2] at h1
  rw [Nat.mul_assoc 2,Nat.add_mul,Nat.mul_assoc _ ε D]
  omega
 have u2:9007199254740987*ε≤2*(rmag X+rmag Y):=by
  refine Nat.le_of_mul_le_mul_right (c:=D) ?_ hDp
  have h1:D*9007199254740991*ε≤2*(A+B)*4503599627370496*ε:=Nat.mul_le_mul_right _ s6
  have e1:2*(A+B)*4503599627370496*ε=2*(A*(4503599627370496*ε)+B*(4503599627370496*ε)):=by rw [←Nat.add_mul,Nat.mul_assoc,Nat.mul_assoc]
  have e2:D*9007199254740991*ε=9007199254740991*(ε*D):=by rw [Nat.mul_comm D,Nat.mul_assoc,Nat.mul_comm D]
  rw [e1,e2] at h1
  rw [Nat.mul_assoc 2,Nat.add_mul,Nat.mul_assoc _ ε D]
  omega
 obtain⟨Z,z1,z2⟩:=add_fin (a:=fword false X) (b:=fword false Y) (Azk hX) (Azk hY) (by rw [fR_word hX];unfold infR;omega) (by rw [fR_word hY];unfold infR;omega) (fS_word hX) (fS_word hY)
 rw [fR_word hX,fR_word hY] at z2
 have top:rmag (1022*4503599627370496+9007199254740991)=9007199254740991*ε:=by
  rw [rmag_mulp _ _ (by omega) (by omega),show (1022+26:Nat)=1048 from rfl,hε]
 have z3:=z2.mono (Rounds.exact (U:=0) (1022*4503599627370496+9007199254740991)) (by
  rw [top,Nat.pow_zero,Nat.mul_one]
  have:0<ε:=hε▸pw_pos _
  omega)
 have hZ:Z≤infR:=by unfold infR;omega
 have one:rmag (1023*4503599627370496)=4503599627370496*ε:=by
  rw [rmag_two 1023 (by omega),←hε,show (4503599627370496:Nat)=pw 52 from pw_52,←pw_add]
 have w1:9007199254740986*ε≤2*rmag Z∧2*rmag Z≤9007199254740998*ε:=by
  have g1:=gap_abs (R:=Z) (e:=1023) (by omega) (by omega)
  rw [show 1023+25=1048 from rfl,hε] at g1
  have a1:=z2.up
  rw [Nat.pow_zero,Nat.mul_one,Nat.mul_one] at a1
  refine⟨by omega,?_⟩
  rcases Nat.eq_zero_or_pos Z with h0 | h0
  ·rw [h0,Bcj];exact Nat.zero_le _
  ·have a3:=z2.dn (by omega)
   rw [Nat.pow_zero,Nat.mul_one,Nat.mul_one] at a3
   have g2:=gap_abs (R:=Z - 1) (e:=1023) (by omega) (by omega)
   rw [show Z - 1+1=Z by omega,show 1023+25=1048 from rfl,hε] at g2
   omega
 rw [Nat.min_eq_left hZ] at z1
 obtain⟨g,d,k1,k2⟩:=sub_fin (a:=fword false Z) (b:=4607182418800017408) (Azk hZ) (by omega) (by rw [fR_word hZ];unfold infR;omega) (by decide) (fS_word hZ) (by decide)
 rw [fR_word hZ,show fR 4607182418800017408=1023*4503599627370496 by decide,one] at k2
 have k3:=k2.mono (Rounds.exact (U:=0) (973*4503599627370496)) (by
  have e1:rmag (973*4503599627370496)=4*ε:=by
   rw [rmag_two 973 (by omega),←hε,show (4:Nat)=pw 2 from pw_2,←pw_add]
  rw [e1,Nat.pow_zero,Nat.mul_one];omega)
 exact⟨_,_,X,Y,Z,g,min d infR,s1,t1,x1,y1,x2,y2,z1,hZ,k1,by omega⟩
end Go.Eng
