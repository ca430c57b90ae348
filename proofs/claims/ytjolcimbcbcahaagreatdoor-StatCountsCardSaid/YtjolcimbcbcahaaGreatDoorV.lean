/- Floating-point numbers in order; rounding; no condition. -/
import Derived.Test.YtjolcimbcbcahaaGreatDoorE1
set_option linter.unusedSectionVars false
set_option linter.unusedVariables false
set_option linter.unusedSimpArgs false
set_option linter.unnecessarySimpa false
namespace Go.Eng
open Go Ieee
theorem Apf (s:Bool) (m a b:Nat):signed s m (a+b)=signed s m a*((2^b:Nat):Int):=by
 have h:m <<< (a+b)=m <<< a*2^b:=by
  rw [Nat.shiftLeft_eq,Nat.shiftLeft_eq,Nat.pow_add,Nat.mul_assoc]
 cases s
 ·simp only [signed,Bool.false_eq_true,if_false]
  rw [h];push_cast;rfl
 ·simp only [signed,if_true]
  rw [h];push_cast;rw [Int.neg_mul]
theorem AxT (x y:Int) (c:Nat) (hc:0<c):compare (x*(c:Int)) (y*(c:Int))=compare x y:=by
 have hc':(0:Int)<c:=by exact_mod_cast hc
 rcases Int.lt_trichotomy x y with h | h | h
 ·rw [Int.compare_eq_lt.2 h,Int.compare_eq_lt.2 (Int.mul_lt_mul_of_pos_right h hc')]
 ·subst h;simp
 ·rw [Int.compare_eq_gt.2 h,Int.compare_eq_gt.2 (Int.mul_lt_mul_of_pos_right h hc')]
def fval (s:Bool) (m:Nat) (i:Int):Int:=signed s m (i+1100).toNat
theorem Bcz {s t:Bool} {m n:Nat} {i j:Int} (hi : -1100≤i) (hj : -1100≤j) :
 Datum.order (.number s m i) (.number t n j)=some (compare (fval s m i) (fval t n j)):=by
 have hb : -1100≤min i j:=by omega
 have e1:(i+1100).toNat=(i - min i j).toNat+(min i j+1100).toNat:=by omega
 have e2:(j+1100).toNat=(j - min i j).toNat+(min i j+1100).toNat:=by omega
 simp only [Datum.order,fval]
 rw [e1,e2,Apf,Apf,AxT _ _ _ (Nat.two_pow_pos _)]
theorem fval_eq (m:Nat) (i:Int):fval false m i=((m*2^(i+1100).toNat:Nat):Int):=by
 unfold fval
 generalize (i+1100).toNat=k
 simp only [signed,Bool.false_eq_true,if_false,Nat.shiftLeft_eq]
theorem fval_neg {m:Nat} {i:Int}:fval true m i = - fval false m i:=by
 unfold fval
 generalize (i+1100).toNat=k
 simp [signed]
end Go.Eng
namespace Go.Eng
open Go Ieee
def infR:Nat:=9218868437227405312
def fS (w:Nat):Bool:=decide (9223372036854775808≤w)
def fR (w:Nat):Nat:=w%9223372036854775808
def fN (w:Nat):Bool:=decide (infR<fR w)
def fK (w:Nat):Int:=if fS w then -(fR w:Int) else (fR w:Int)
def fT (w:Nat):Int:=if fN w then -18446744073709551616 else if fS w then -(fR w:Int) - 1 else (fR w:Int)
theorem fR_lt (w:Nat):fR w<9223372036854775808:=Nat.mod_lt _ (by omega)
def rmag (r:Nat):Nat:=if r<4503599627370496 then r*2^26 else (4503599627370496+r%4503599627370496)*2^(r / 4503599627370496+25)
theorem Bck {a b:Nat} (h:a<b):rmag a<rmag b:=by
 unfold rmag
 by_cases h1:b<4503599627370496
 ·rw [if_pos (by omega),if_pos h1]
  exact Nat.mul_lt_mul_of_pos_right h (Nat.two_pow_pos _)
 ·rw [if_neg h1]
  have e1:1≤b / 4503599627370496:=by omega
  by_cases h2:a<4503599627370496
  ·rw [if_pos h2]
   have h3:a*2^26<4503599627370496*2^26:=Nat.mul_lt_mul_of_pos_right h2 (Nat.two_pow_pos _)
   have h4:(2:Nat)^26≤2^(b / 4503599627370496+25):=Nat.pow_le_pow_right (by omega) (by omega)
   have h5:4503599627370496*2^26≤(4503599627370496+b%4503599627370496)*2^(b / 4503599627370496+25):=Nat.mul_le_mul (by omega) h4
   omega
  ·rw [if_neg h2]
   rcases Nat.lt_or_ge (a / 4503599627370496) (b / 4503599627370496) with h3 | h3
   ·have h4:(4503599627370496+a%4503599627370496)*2^(a / 4503599627370496+25)<(2*4503599627370496)*2^(a / 4503599627370496+25) :=
     Nat.mul_lt_mul_of_pos_right (by omega) (Nat.two_pow_pos _)
    have h5:(2*4503599627370496)*2^(a / 4503599627370496+25)=4503599627370496*2^(a / 4503599627370496+1+25):=by
     rw [show a / 4503599627370496+1+25=(a / 4503599627370496+25)+1 by omega]
     generalize a / 4503599627370496+25=k
     rw [Nat.pow_succ]
     omega
    have h6:(2:Nat)^(a / 4503599627370496+1+25)≤2^(b / 4503599627370496+25):=Nat.pow_le_pow_right (by omega) (by omega)
    have h7:4503599627370496*2^(a / 4503599627370496+1+25)≤(4503599627370496+b%4503599627370496)*2^(b / 4503599627370496+25):=Nat.mul_le_mul (by omega) h6
    omega
   ·have h4:a / 4503599627370496=b / 4503599627370496:=by omega
    rw [h4]
    exact Nat.mul_lt_mul_of_pos_right (by omega) (Nat.two_pow_pos _)
theorem Bcj:rmag 0=0:=rfl
theorem AlS (a b:Nat):(rmag a<rmag b↔a<b)∧(rmag a=rmag b↔a=b):=by
 rcases Nat.lt_trichotomy a b with h | h | h
 ·have:=Bck h;exact⟨by omega,by omega⟩
 ·subst h;exact⟨by omega,by omega⟩
 ·have:=Bck h;exact⟨by omega,by omega⟩
inductive RdOf (w:Nat):Datum→Prop
 | nan {s f}:fN w=true→RdOf w (.nan s f)
 | inf:fN w=false→fR w=infR→RdOf w (.infinity (fS w))
 | num {m i}:fN w=false→fR w<infR → -1100≤i→fval false m i=(rmag (fR w):Int)→RdOf w (.number (fS w) m i)
theorem rd_of {w:Nat} (hw:w<18446744073709551616):RdOf w (Format.read double w):=by
 have hb:double.binade=4503599627370496:=by decide
 have hl:double.leastPlace = -1074:=by decide
 have hf:double.infRung=9218868437227405312:=by decide
 have hs:double.signWeight=9223372036854775808:=by decide
 have hsg:(w / 9223372036854775808%2 == 1)=fS w:=by
  unfold fS
  rcases Nat.lt_or_ge w 9223372036854775808 with h | h
  ·rw [show w / 9223372036854775808%2=0 by omega];simp;omega
  ·rw [show w / 9223372036854775808%2=1 by omega];simp [h]
 unfold Format.read
 simp only [hb,hl,hf,hs,hsg]
 have hR:w%9223372036854775808=fR w:=rfl
 rw [hR]
 split
 ·rename_i h
  refine .num ?_ (by unfold infR;omega) (by omega) ?_
  ·unfold fN infR;simp;omega
  ·rw [fval_eq];unfold rmag;rw [if_pos h];rfl
 ·rename_i h
  split
  ·rename_i h2
   refine .num ?_ (by unfold infR;omega) (by omega) ?_
   ·unfold fN infR;simp;omega
   ·rw [fval_eq];unfold rmag;rw [if_neg h]
    have:(-1074+((fR w / 4503599627370496 - 1:Nat):Int)+1100).toNat=fR w / 4503599627370496+25:=by omega
    rw [this]
  ·rename_i h2
   split
   ·rename_i h3
    refine .inf ?_ h3
    unfold fN infR;simp;omega
   ·rename_i h3
    refine .nan ?_
    unfold fN infR;simp;omega
theorem Ass (a b:Nat) (s t:Bool) :
 compare (if s then -(rmag a:Int) else (rmag a:Int)) (if t then -(rmag b:Int) else (rmag b:Int))=compare (if s then -(a:Int) else (a:Int)) (if t then -(b:Int) else (b:Int)):=by
 obtain⟨h1,h2⟩:=AlS a b
 obtain⟨h3,h4⟩:=AlS b a
 obtain⟨z1,z2⟩:=AlS 0 a
 obtain⟨z3,z4⟩:=AlS 0 b
 rw [Bcj] at z1 z2 z3 z4
 generalize rmag a=A at *
 generalize rmag b=B at *
 have key:∀ x y x' y':Int,((x<y↔x'<y')∧(x=y↔x'=y'))→compare x y=compare x' y':=by
  intro x y x' y' ⟨p,q⟩
  rcases Int.lt_trichotomy x' y' with h | h | h
  ·rw [Int.compare_eq_lt.2 h,Int.compare_eq_lt.2 (p.2 h)]
  ·rw [Int.compare_eq_eq.2 h,Int.compare_eq_eq.2 (q.2 h)]
  ·rw [Int.compare_eq_gt.2 h,Int.compare_eq_gt.2 (by omega)]
 refine key _ _ _ _ ?_
 cases s<;>cases t<;>simp<;>omega
theorem AnA (a b:Nat) (ha:a<18446744073709551616) (hb:b<18446744073709551616) :
 FloatKind.f64.format.order a b=if fN a || fN b then none else some (compare (fK a) (fK b)):=by
 show (Format.read double a).order (Format.read double b)=_
 have hA:=rd_of ha
 have hB:=rd_of hb
 have fv:∀ s m i,fval s m i=if s then - fval false m i else fval false m i:=by
  intro s m i;cases s
  ·rfl
  ·exact fval_neg
 generalize Format.read double a=x at hA
 generalize Format.read double b=y at hB
 cases hA with
 | nan h=>rw [h];cases hB<;>rfl
 | inf h h' =>
   rw [h]
   cases hB with
   | nan g=>rw [g];rfl
   | inf g g' =>
     rw [g]
     simp only [Bool.or_self,Bool.false_eq_true,if_false,Datum.order,fK,h',g']
     cases fS a<;>cases fS b<;>rfl
   | num g g' =>
     rw [g]
     simp only [Bool.or_self,Bool.false_eq_true,if_false,Datum.order,fK,h']
     cases fS a
     ·simp only [Bool.false_eq_true,if_false]
      rw [Int.compare_eq_gt.2 (by split<;>omega)]
     ·simp only [if_true]
      rw [Int.compare_eq_lt.2 (by split<;>omega)]
 | num h h' hi hv =>
   rw [h]
   cases hB with
   | nan g=>rw [g];rfl
   | inf g g' =>
     rw [g]
     simp only [Bool.or_self,Bool.false_eq_true,if_false,Datum.order,fK,g']
     cases fS b
     ·simp only [Bool.false_eq_true,if_false]
      rw [Int.compare_eq_lt.2 (by split<;>omega)]
     ·simp only [if_true]
      rw [Int.compare_eq_gt.2 (by split<;>omega)]
   | num g g' gi gv =>
     rw [g,Bcz (by omega) (by omega),fv,fv (fS b),hv,gv,Ass]
     rfl
theorem AxV (x y:Int):(compare x y == .lt)=decide (x<y)∧(compare x y == .eq)=decide (x=y)∧(compare x y == .gt)=decide (y<x):=by
 rcases Int.lt_trichotomy x y with h | h | h
 ·rw [Int.compare_eq_lt.2 h,decide_eq_true h,decide_eq_false (by omega),decide_eq_false (by omega)]
  exact⟨rfl,rfl,rfl⟩
 ·rw [Int.compare_eq_eq.2 h,decide_eq_true h,decide_eq_false (by omega),decide_eq_false (by omega)]
  exact⟨rfl,rfl,rfl⟩
 ·rw [Int.compare_eq_gt.2 h,decide_eq_true h,decide_eq_false (by omega),decide_eq_false (by omega)]
  exact⟨rfl,rfl,rfl⟩
theorem fo_lt {a b:Nat} (ha:a<18446744073709551616) (hb:b<18446744073709551616) :
 (FloatKind.f64.format.order a b == some .lt)=(!fN a && !fN b && decide (fK a<fK b)):=by
 rw [AnA a b ha hb]
 cases fN a<;>cases fN b<;>simp
 exact(AxV _ _).1
theorem fo_gt {a b:Nat} (ha:a<18446744073709551616) (hb:b<18446744073709551616) :
 (FloatKind.f64.format.order a b == some .gt)=(!fN a && !fN b && decide (fK b<fK a)):=by
 rw [AnA a b ha hb]
 cases fN a<;>cases fN b<;>simp
 exact(AxV _ _).2.2
theorem fo_eq {a b:Nat} (ha:a<18446744073709551616) (hb:b<18446744073709551616) :
 (FloatKind.f64.format.order a b == some .eq)=(!fN a && !fN b && decide (fK a=fK b)):=by
 rw [AnA a b ha hb]
 cases fN a<;>cases fN b<;>simp
 exact(AxV _ _).2.1
theorem fo_ne {a b:Nat} (ha:a<18446744073709551616) (hb:b<18446744073709551616) :
 (FloatKind.f64.format.order a b != some .eq)=(fN a || fN b || decide (fK a≠fK b)):=by
 have:=fo_eq ha hb
 rw [bne,this]
 cases fN a<;>cases fN b<;>simp
end Go.Eng
namespace Go.Eng
open Go Ieee
def rraw (mag:Nat) (place:Int):Nat :=
 let last:=max (place+mag.log2 - 52) (-1074)
 (last+1074).toNat*4503599627370496+Toward.even.cut false (mag <<< (place - last).toNat) (last - place).toNat
def rnd (mag:Nat) (place:Int):Nat:=if mag=0 then 0 else min (rraw mag place) infR
theorem Baz (neg:Bool) (mag:Nat) (place:Int):Format.nearest double neg mag place=if neg then 9223372036854775808+rnd mag place else rnd mag place:=by
 have hb:double.binade=4503599627370496:=by decide
 have hl:double.leastPlace = -1074:=by decide
 have hf:double.infRung=9218868437227405312:=by decide
 have hs:double.signWeight=9223372036854775808:=by decide
 have hfb:(double.fractionBits:Int)=52:=by decide
 unfold Format.nearest rnd
 by_cases h:mag=0
 ·rw [if_pos h,if_pos h]
  unfold Format.word;rw [hs]
 ·rw [if_neg h,if_neg h]
  simp only [hb,hl,hf,hfb]
  unfold Format.word;rw [hs]
  have e:∀ n d,Toward.even.cut neg n d=Toward.even.cut false n d:=fun n d=>rfl
  rw [e]
  rfl
structure Rounds (U:Nat) (v R:Nat):Prop where
 up:2*v≤rmag R*2^U+rmag (R+1)*2^U
 upe:2*v=rmag R*2^U+rmag (R+1)*2^U→R%2=0
 dn:R≠0→rmag (R - 1)*2^U+rmag R*2^U≤2*v
 dne:R≠0→rmag (R - 1)*2^U+rmag R*2^U=2*v→R%2=0
end Go.Eng
namespace Go.Eng
open Go Ieee
end Go.Eng
namespace Go.Eng
open Go Ieee
def fword (s:Bool) (r:Nat):Nat:=if s then 9223372036854775808+r else r
theorem Azk {s:Bool} {r:Nat} (h:r≤infR):fword s r<18446744073709551616:=by unfold fword infR at*;split<;>omega
theorem rnd_le (m:Nat) (i:Int):rnd m i≤infR:=by unfold rnd;split<;>omega
theorem nearest_w (s:Bool) (m:Nat) (i:Int):Format.nearest double s m i=fword s (rnd m i):=Baz s m i
theorem Bbu (s:Bool):Format.write double (.infinity s)=fword s infR:=by
 cases s<;>decide+kernel
end Go.Eng
