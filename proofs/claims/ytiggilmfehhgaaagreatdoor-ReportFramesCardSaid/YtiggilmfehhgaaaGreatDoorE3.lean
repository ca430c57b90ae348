/- A part of the engine: a machine over abstract values, and the proof that the program does what it does; no condition. -/
import Derived.Test.YtiggilmfehhgaaaGreatDoorE2
import Derived.Defers
import Derived.LoopN
import Derived.Scope
set_option linter.unusedSectionVars false
set_option linter.unusedVariables false
set_option linter.unusedSimpArgs false
set_option linter.unnecessarySimpa false
namespace Go.Eng
open Go
variable [Inhabited GlobT]
section
variable {P:Program} {A:Nat→Prop} {κ κ2:Kap} {S:Store} {w w':World} {T':Nat→Prop}
theorem Adu {α β:Type} {f:α→RM β}:∀ {l:List α} {l':List β} {ids:List Nat},(RM.mapL f l).run S=some (l',ids) →
 l'.length=l.length∧∀ (i:Nat) x,l[i]?=some x→∃ y ids',l'[i]?=some y∧(f x).run S=some (y,ids')
 | [],l',ids,h=>by simp [RM.mapL,RM.run] at h;obtain⟨rfl,-⟩:=h;exact⟨rfl,fun i x h=>by simp at h⟩
 | x::l,l',ids,h=>by
   simp only [RM.mapL] at h
   obtain⟨y,i1,i2,h1,h2,-⟩:=run_bind h
   obtain⟨ys,i3,i4,h3,h4,-⟩:=run_bind h2
   simp only [RM.run,Option.some.injEq,Prod.mk.injEq] at h4
   obtain⟨rfl,-⟩:=h4
   obtain⟨g1,g2⟩:=Adu h3
   refine⟨by simp [g1],fun i z hz=>?_⟩
   cases i with
   | zero=>simp at hz;subst hz;exact⟨y,i1,rfl,h1⟩
   | succ i=>exact g2 i z (by simpa using hz)
theorem AjS:∀ {l:List AVal} {i:Nat} {x:AVal},norefL l=true→l[i]?=some x→x.noref=true
 | [],i,x,_,h=>by simp at h
 | y::l,0,x,hn,h=>by simp at h;subst h;simp only [norefL,Bool.and_eq_true] at hn;exact hn.1
 | y::l,i+1,x,hn,h=>by simp only [norefL,Bool.and_eq_true] at hn;exact AjS hn.2 (by simpa using h)
theorem Ank:∀ {l:List (List AVal)} {i:Nat} {x:List AVal},Abn l=true→l[i]?=some x→norefL x=true
 | [],i,x,_,h=>by simp at h
 | y::l,0,x,hn,h=>by simp at h;subst h;simp only [Abn,Bool.and_eq_true] at hn;exact hn.1
 | y::l,i+1,x,hn,h=>by simp only [Abn,Bool.and_eq_true] at hn;exact Ank hn.2 (by simpa using h)
theorem closedL_of:∀ {l:List AVal},(∀ (i:Nat) x,l[i]?=some x→x.closed=true)→AaC l=true
 | [],_=>rfl
 | x::l,h=>by simp only [AaC,Bool.and_eq_true];exact⟨h 0 x rfl,closedL_of fun i y hy=>h (i+1) y (by simpa using hy)⟩
theorem closedLL_of:∀ {l:List (List AVal)},(∀ (i:Nat) x,l[i]?=some x→AaC x=true)→AaX l=true
 | [],_=>rfl
 | x::l,h=>by simp only [AaX,Bool.and_eq_true];exact⟨h 0 x rfl,closedLL_of fun i y hy=>h (i+1) y (by simpa using hy)⟩
variable (hS:RS A κ S w) (hT:∀ c,¬ Avoid A κ c→¬ T' c)
include hS hT
theorem Ann {p:Bool}:∀ (n:Nat) (v v':AVal) (x:Value) (ids:List Nat),(frzG p n v).run S=some (v',ids)→(v.noref=true∨∀ (b:Nat) y,κ[b]?=some (some (some y))→¬ T' y.cb) →
 Rep κ (Avoid A κ) w v x→v'.closed=true∧Rep κ2 T' w v' x:=by
 intro n
 induction n with
 | zero =>
   intro v v' x ids h hn hr
   simp only [frzG] at h
   split at h
   ·rename_i hc
    simp only [RM.run,Option.some.injEq,Prod.mk.injEq] at h
    obtain⟨rfl,-⟩:=h
    exact⟨hc,Ahf hT v x hc hr⟩
   ·split at h
    ·simp only [RM.run,Option.some.injEq,Prod.mk.injEq] at h
     obtain⟨rfl,-⟩:=h
     exact⟨rfl,trivial⟩
    ·exact(Aaf h).elim
 | succ n ih =>
   intro v v' x ids h hn hr
   have ihL:∀ (cs cs':List AVal) (g:Nat→Option Value) (ids:List Nat),(RM.mapL (frzG p n) cs).run S=some (cs',ids)→(norefL cs=true∨∀ (b:Nat) y,κ[b]?=some (some (some y))→¬ T' y.cb) →
    RepL κ (Avoid A κ) w cs g→cs'.length=cs.length∧AaC cs'=true∧RepL κ2 T' w cs' g:=by
    intro cs cs' g ids hm hn hr
    obtain⟨g1,g2⟩:=Adu hm
    have key:∀ (i:Nat) y,cs'[i]?=some y→y.closed=true∧∃ v,g i=some v∧Rep κ2 T' w y v:=by
     intro i y hy
     have hl:i<cs.length:=by rw [←g1];exact(List.getElem?_eq_some_iff.1 hy).1
     have hc:cs[i]?=some cs[i]:=by simp [hl]
     obtain⟨y',ids',g3,g4⟩:=g2 i _ hc
     rw [hy] at g3;cases g3
     obtain⟨v,hv,hvr⟩:=Aex cs g hr i _ hc
     obtain⟨k1,k2⟩:=ih _ _ _ _ g4 (hn.imp (fun h=>AjS h hc) id) hvr
     exact⟨k1,v,hv,k2⟩
    exact⟨g1,closedL_of fun i y hy=>(key i y hy).1,Agn _ _ fun i y hy=>(key i y hy).2⟩
   have ihLL:∀ (rs rs':List (List AVal)) (sz:Nat) (g:Nat→Option Value) (ids:List Nat),(RM.mapL (RM.mapL (frzG p n)) rs).run S=some (rs',ids)→(Abn rs=true∨∀ (b:Nat) y,κ[b]?=some (some (some y))→¬ T' y.cb) →
    Abz κ (Avoid A κ) w rs sz g→rs'.length=rs.length∧AaX rs'=true∧Abz κ2 T' w rs' sz g:=by
    intro rs rs' sz g ids hm hn hr
    obtain⟨g1,g2⟩:=Adu hm
    have key:∀ (i:Nat) y,rs'[i]?=some y→AaC y=true∧y.length=sz∧RepL κ2 T' w y (fun m=>g (i*sz+m)):=by
     intro i y hy
     have hl:i<rs.length:=by rw [←g1];exact(List.getElem?_eq_some_iff.1 hy).1
     have hc:rs[i]?=some rs[i]:=by simp [hl]
     obtain⟨y',ids',g3,g4⟩:=g2 i _ hc
     rw [hy] at g3;cases g3
     obtain⟨k1,k2⟩:=AeW hr hc
     obtain⟨k3,k4,k5⟩:=ihL _ _ _ _ g4 (hn.imp (fun h=>Ank h hc) id) k2
     exact⟨k4,by rw [k3,k1],k5⟩
    exact⟨g1,closedLL_of fun i y hy=>(key i y hy).1,AlH _ _ _ fun i y hy=>(key i y hy).2⟩
   have immRep:∀ (rows rows':List (List AVal)) (ids:List Nat),(RM.mapL (RM.mapL (frzG p n)) rows).run S=some (rows',ids)→(Abn rows=true∨∀ (b:Nat) y,κ[b]?=some (some (some y))→¬ T' y.cb) →
    Rep κ (Avoid A κ) w (.imm rows) x→(AVal.imm rows').closed=true∧Rep κ2 T' w (.imm rows') x:=by
    rintro rows rows' ids hm hn ⟨p,len,cap,g1,g2,g3,g4,g5⟩
    have hlen:=(Adu hm).1
    by_cases hr0:rows=[]
    ·subst hr0
     have:rows'=[]:=List.eq_nil_of_length_eq_zero (by simpa using hlen)
     subst this
     exact⟨rfl,p,len,cap,g1,g2,g3,g4,fun h=>absurd rfl h⟩
    ·obtain⟨sz,cb,of,k1,k2,k3,k4⟩:=g5 hr0
     obtain⟨m1,m2,m3⟩:=ihLL _ _ _ _ _ hm hn k4
     exact⟨m2,p,len,cap,g1,by rw [g2,m1],g3,g4,fun _=>⟨sz,cb,of,k1,k2,hT _ k3,m3⟩⟩
   simp only [frzG] at h
   split at h
   ·rename_i hc
    simp only [RM.run,Option.some.injEq,Prod.mk.injEq] at h
    obtain⟨rfl,-⟩:=h
    exact⟨hc,Ahf hT v x hc hr⟩
   ·rename_i hnc
    clear hnc immRep
    cases v<;>simp only at h
    case view b off len full =>
     obtain⟨blk,l,hb,h,-⟩:=AaR h
     simp only at h
     split at h
     ·rename_i hl
      obtain⟨rows,l1,l2,h1,h2,-⟩:=run_bind h
      simp only [RM.run,Option.some.injEq,Prod.mk.injEq] at h2
      obtain⟨rfl,-⟩:=h2
      have hH:∀ (b:Nat) y,κ[b]?=some (some (some y))→¬ T' y.cb:=by
       rcases hn with hn | hn
       ·simp [AVal.noref] at hn
       ·exact hn
      obtain⟨ev,cb,of,cap,g1,rfl,g3⟩:=hr
      obtain⟨xk,hxk,hok⟩:=hS.live b blk hb
      rw [g1] at hxk;cases hxk
      obtain⟨q1,q2,q3,q4,_⟩:=g3 xk rfl
      have hsub:=AeU hok.rep off (off+len)
      rw [←List.take_drop] at hsub
      obtain⟨m1,m2,m3⟩:=ihLL _ _ _ _ _ h1 (.inr hH) hsub
      have hlen:((blk.rows.drop off).take len).length=len:=by simp;omega
      refine⟨m2,some ⟨cb,of,none⟩,len,cap,rfl,by rw [m1,hlen],q1,by simp,fun hne=>?_⟩
      have hpos:0<len:=by
       rcases Nat.eq_zero_or_pos len with h0 | h0
       ·exact absurd (List.eq_nil_of_length_eq_zero (by rw [m1,hlen,h0])) hne
       ·exact h0
      obtain⟨rfl,rfl⟩:=q4 (by omega)
      refine⟨blk.sz,xk.cb,_,rfl,hS.lt g1,hH _ _ g1,repLL_g _ _ _ _ (fun m u hu=>?_) m3⟩
      rw [←hu,hok.sz];congr 2;omega
     ·exact(Aaf h).elim
    case imm rows =>
     obtain⟨rows',l1,l2,h1,h2,-⟩:=run_bind h
     simp only [RM.run,Option.some.injEq,Prod.mk.injEq] at h2
     obtain⟨rfl,-⟩:=h2
     obtain⟨p,len,cap,g1,g2,g3,g4,g5⟩:=hr
     have hlen:=(Adu h1).1
     have hn':Abn rows=true∨∀ (b:Nat) y,κ[b]?=some (some (some y))→¬ T' y.cb:=hn.imp (fun h=>by simpa [AVal.noref] using h) id
     by_cases hr0:rows=[]
     ·subst hr0
      have:rows'=[]:=List.eq_nil_of_length_eq_zero (by simpa using hlen)
      subst this
      exact⟨rfl,p,len,cap,g1,g2,g3,g4,fun h=>absurd rfl h⟩
     ·obtain⟨sz,cb,of,k1,k2,k3,k4⟩:=g5 hr0
      obtain⟨m1,m2,m3⟩:=ihLL _ _ _ _ _ h1 hn' k4
      exact⟨m2,p,len,cap,g1,by rw [g2,m1],g3,g4,fun _=>⟨sz,cb,of,k1,k2,hT _ k3,m3⟩⟩
    case lim rows =>
     obtain⟨rows',l1,l2,h1,h2,-⟩:=run_bind h
     simp only [RM.run,Option.some.injEq,Prod.mk.injEq] at h2
     obtain⟨rfl,-⟩:=h2
     obtain⟨p,len,cap,g1,g2,g3,g4,g5⟩:=hr
     have hlen:=(Adu h1).1
     have hn':Abn rows=true∨∀ (b:Nat) y,κ[b]?=some (some (some y))→¬ T' y.cb:=hn.imp (fun h=>by simpa [AVal.noref] using h) id
     by_cases hr0:rows=[]
     ·subst hr0
      have:rows'=[]:=List.eq_nil_of_length_eq_zero (by simpa using hlen)
      subst this
      exact⟨rfl,p,len,cap,g1,g2,by omega,g4,fun h=>absurd rfl h⟩
     ·obtain⟨sz,cb,of,k1,k2,k3,k4⟩:=g5 hr0
      obtain⟨m1,m2,m3⟩:=ihLL _ _ _ _ _ h1 hn' k4
      exact⟨m2,p,len,cap,g1,by rw [g2,m1],by omega,g4,fun _=>⟨sz,cb,of,k1,k2,hT _ k3,m3⟩⟩
    case nils =>
     simp only [RM.run,Option.some.injEq,Prod.mk.injEq] at h
     obtain⟨rfl,-⟩:=h
     exact⟨rfl,none,0,0,hr,rfl,Nat.le_refl _,fun _=>rfl,fun h=>absurd rfl h⟩
    case enil =>
     simp only [RM.run,Option.some.injEq,Prod.mk.injEq] at h
     obtain⟨rfl,-⟩:=h
     obtain⟨p,c,rfl⟩:=hr
     exact⟨rfl,some p,0,c,rfl,rfl,Nat.zero_le _,by simp,fun h=>absurd rfl h⟩
    case tnil t =>
     simp only [RM.run,Option.some.injEq,Prod.mk.injEq] at h
     obtain⟨rfl,-⟩:=h
     exact⟨rfl,none,0,0,hr,rfl,Nat.le_refl _,fun _=>rfl,fun h=>absurd rfl h⟩
    case ptr b i f =>
     split at h
     ·obtain⟨blk,l,hb,h,-⟩:=AaR h
      simp only at h
      split at h
      ·rename_i r hrow
       split at h
       ·rename_i hfl
        obtain⟨cs',l1,l2,h1,h2,-⟩:=run_bind h
        simp only [RM.run,Option.some.injEq,Prod.mk.injEq] at h2
        obtain⟨rfl,-⟩:=h2
        have hH:∀ (b:Nat) y,κ[b]?=some (some (some y))→¬ T' y.cb:=by
         rcases hn with hn | hn
         ·simp [AVal.noref] at hn
         ·exact hn
        obtain⟨ev,ad,g1,rfl,g3⟩:=hr
        obtain⟨xk,hxk,hok⟩:=hS.live b blk hb
        rw [g1] at hxk;cases hxk
        have:=g3 xk rfl;subst this
        obtain⟨k1,k2⟩:=AeW hok.rep hrow
        have k3:RepL κ (Avoid A κ) w (r.drop f) (fun m=>w.cell? ⟨xk.cb,xk.sh+i*xk.sz+f+m,none⟩):=by
         refine Agn _ _ fun j a ha=>?_
         rw [List.getElem?_drop] at ha
         obtain⟨v,q1,q2⟩:=Aex r _ k2 _ a ha
         exact⟨v,by rw [←q1,hok.sz];congr 2;omega,q2⟩
        obtain⟨m1,m2,m3⟩:=ihL _ _ _ _ h1 (.inr hH) k3
        exact⟨m2,xk.cb,_,rfl,hS.lt g1,hH _ _ g1,m3⟩
       ·exact(Aaf h).elim
      ·exact(Aaf h).elim
     ·exact(Aaf h).elim
    case agg cs =>
     obtain⟨cs',l1,l2,h1,h2,-⟩:=run_bind h
     simp only [RM.run,Option.some.injEq,Prod.mk.injEq] at h2
     obtain⟨rfl,-⟩:=h2
     obtain⟨xs,g1,g2,g3⟩:=hr
     obtain⟨m1,m2,m3⟩:=ihL _ _ _ _ h1 (hn.imp (fun h=>by simpa [AVal.noref] using h) id) g3
     exact⟨m2,xs,g1,by rw [g2,m1],m3⟩
    case tuple cs =>
     obtain⟨cs',l1,l2,h1,h2,-⟩:=run_bind h
     simp only [RM.run,Option.some.injEq,Prod.mk.injEq] at h2
     obtain⟨rfl,-⟩:=h2
     obtain⟨xs,g1,g2,g3⟩:=hr
     obtain⟨m1,m2,m3⟩:=ihL _ _ _ _ h1 (hn.imp (fun h=>by simpa [AVal.noref] using h) id) g3
     exact⟨m2,xs,g1,by rw [g2,m1],m3⟩
    case iface t u =>
     obtain⟨u',l1,l2,h1,h2,-⟩:=run_bind h
     simp only [RM.run,Option.some.injEq,Prod.mk.injEq] at h2
     obtain⟨rfl,-⟩:=h2
     obtain⟨y,g1,g2⟩:=hr
     obtain⟨m1,m2⟩:=ih _ _ _ _ h1 (hn.imp (fun h=>by simpa [AVal.noref] using h) id) g2
     exact⟨m1,y,g1,m2⟩
    case fn f as bs =>
     obtain⟨as',l1,l2,h1,h2,-⟩:=run_bind h
     obtain⟨bs',l3,l4,h3,h4,-⟩:=run_bind h2
     simp only [RM.run,Option.some.injEq,Prod.mk.injEq] at h4
     obtain⟨rfl,-⟩:=h4
     obtain⟨p,q,g1,g2,g3,g4,g5⟩:=hr
     obtain⟨m1,m2,m3⟩:=ihL _ _ _ _ h1 (hn.imp (fun h=>by simp only [AVal.noref,Bool.and_eq_true] at h;exact h.1) id) g4
     obtain⟨n1,n2,n3⟩:=ihL _ _ _ _ h3 (hn.imp (fun h=>by simp only [AVal.noref,Bool.and_eq_true] at h;exact h.2) id) g5
     exact⟨by simp only [AVal.closed,m2,n2,Bool.and_self],p,q,g1,by rw [g2,m1],by rw [g3,n1],m3,n3⟩
    case mapv b =>
     split at h
     ·simp only [RM.run,Option.some.injEq,Prod.mk.injEq] at h
      obtain⟨rfl,-⟩:=h
      exact⟨rfl,trivial⟩
     ·exact(Aaf h).elim
    all_goals exact(Aaf h).elim
theorem AlP {p:Bool} {n:Nat} {cs cs':List AVal} {vs:List Value} {ids:List Nat} (h:(RM.mapL (frzG p n) cs).run S=some (cs',ids)) (hn:norefL cs=true∨∀ (b:Nat) y,κ[b]?=some (some (some y))→¬ T' y.cb)
 (hr:RepV κ (Avoid A κ) w cs vs):RepV κ2 T' w cs' vs:=by
 obtain⟨g1,g2⟩:=Adu h
 refine⟨by rw [g1,hr.1],fun i y v hy hv=>?_⟩
 have hl:i<cs.length:=by rw [←g1];exact(List.getElem?_eq_some_iff.1 hy).1
 have hc:cs[i]?=some cs[i]:=by simp [hl]
 obtain⟨y',ids',g3,g4⟩:=g2 i _ hc
 rw [hy] at g3;cases g3
 exact(Ann hS hT n _ _ _ _ g4 (hn.imp (fun h=>AjS h hc) id) (hr.2 i _ _ hc hv)).2
end
end Go.Eng
namespace Go.Eng
open Go
variable [Inhabited GlobT]
def WrIn:RM Eff→List Nat→Prop
 | .ok e,acc=>∀ x∈e.wr,x.1∈acc
 | .fail,_=>True
 | .rd b k,acc=>∀ blk,WrIn (k blk) (b::acc)
theorem WrIn.mono:∀ {m:RM Eff} {acc acc':List Nat},WrIn m acc→(∀ x∈acc,x∈acc')→WrIn m acc'
 | .ok _,_,_,h,hs=>fun x hx=>hs _ (h x hx)
 | .fail,_,_,_,_=>trivial
 | .rd _ _,_,_,h,hs=>fun blk=>(h blk).mono fun x hx=>by
   rcases List.mem_cons.1 hx with rfl | hx
   ·exact List.mem_cons_self
   ·exact List.mem_cons_of_mem _ (hs x hx)
theorem WrIn.run:∀ {m:RM Eff} {acc:List Nat} {S:Store} {e:Eff} {ids:List Nat},WrIn m acc→m.run S=some (e,ids)→∀ x∈e.wr,x.1∈acc∨x.1∈ids
 | .ok a,acc,S,e,ids,h,hr=>by
   simp only [RM.run,Option.some.injEq,Prod.mk.injEq] at hr
   obtain⟨rfl,rfl⟩:=hr
   exact fun x hx => .inl (h x hx)
 | .fail,_,_,_,_,_,hr=>by simp [RM.run] at hr
 | .rd b k,acc,S,e,ids,h,hr=>by
   obtain⟨blk,l,hb,hk,hi⟩:=AaR hr
   simp only at hi hk
   subst hi
   intro x hx
   rcases (h blk).run hk x hx with h1 | h1
   ·rcases List.mem_cons.1 h1 with h2 | h2
    ·exact .inr (by rw [h2];exact List.mem_cons_self)
    ·exact .inl h2
   ·exact .inr (List.mem_cons_of_mem _ h1)
theorem WrIn.bind {α:Type}:∀ {m:RM α} {f:α→RM Eff} {acc:List Nat},(∀ a,WrIn (f a) acc)→WrIn (m.bind f) acc
 | .ok a,f,acc,h=>h a
 | .fail,_,_,_=>trivial
 | .rd b k,f,acc,h=>fun blk=>WrIn.bind fun a=>(h a).mono fun x hx=>List.mem_cons_of_mem _ hx
theorem WrIn.v {v:AVal} {n:Option ABlock} {acc:List Nat}:WrIn (.ok ⟨v,n,[]⟩) acc:=fun x hx=>by simp at hx
theorem WrIn.o {v:Option AVal} {acc:List Nat}:WrIn (Eff.o v) acc:=by
 cases v with
 | none=>trivial
 | some v=>exact .v
theorem WrIn.w {v:AVal} {n:Option ABlock} {b:Nat} {x:Option ABlock} {acc:List Nat} (h:b∈acc):WrIn (.ok ⟨v,n,[(b,x)]⟩) acc:=fun y hy=>by
 simp at hy;subst hy;exact h
theorem Ado {x:AVal} {k:Nat→Nat→List (Nat × AVal × AVal)→RM Eff} {acc:List Nat} (h:∀ b c es,WrIn (k b c es) (b::acc)):WrIn (AeJ x k) acc:=by
 unfold AeJ
 split
 ·intro blk
  dsimp only
  split
  ·exact h _ _ _
  ·trivial
 ·trivial
theorem AfG {sz bytes slot:Nat} {x:AVal} {ys:List (List AVal)} {acc:List Nat}:WrIn (appendTo sz bytes slot x ys) acc:=by
 unfold appendTo
 split
 ·split<;>first | exact .v | trivial | (intro blk;exact .v)
 ·split
  ·split<;>first | exact .v | trivial
  ·split<;>first | exact .v | trivial
  ·intro blk
   dsimp only
   split
   ·split
    ·exact .v
    ·split
     ·exact .w List.mem_cons_self
     ·split
      ·exact .w List.mem_cons_self
      ·trivial
   ·trivial
  ·trivial
theorem retype_wr {t:Inhabited Nat}:∀ {m:RM Eff} {acc:List Nat},WrIn m acc→WrIn (m.bind fun e => .ok (AfJ t e)) acc
 | .ok e,acc,h=>fun x hx=>by
   simp only [AfJ,List.mem_map] at hx
   obtain⟨y,hy,rfl⟩:=hx
   exact h y hy
 | .fail,_,_=>trivial
 | .rd b k,acc,h=>fun blk=>retype_wr (h blk)
theorem appendToE_wr {t sz bytes slot:Nat} {x:AVal} {ys:List (List AVal)} {acc:List Nat}:WrIn (AdC t sz bytes slot x ys) acc:=by
 unfold AdC
 split
 ·split
  ·exact .v
  ·split<;>first | exact .v | trivial
 ·intro blk
  dsimp only
  split
  ·exact retype_wr AfG
  ·exact AfG
 ·exact AfG
theorem sem_wr (slot:Nat) (ρ:AOpd→AVal) (op:AOp):WrIn (sem slot ρ op) []:=by
 cases op
 case append sz bytes x y=>simp only [sem];exact .bind fun _=>AfG
 case appendE t sz bytes x y=>simp only [sem];exact .bind fun _=>appendToE_wr
 case isNil k neg x=>simp only [sem];exact .bind fun _ => .v
 case copy sz x y =>
  simp only [sem]
  refine .bind fun ys=>?_
  split
  ·exact .v
  ·intro blk
   dsimp only
   split
   ·exact .w List.mem_cons_self
   ·trivial
  ·intro blk
   dsimp only
   split
   ·split
    ·exact .w List.mem_cons_self
    ·trivial
   ·trivial
  ·trivial
 case conv c x =>
  cases c<;>simp only [sem]
  case str=>exact .bind fun _ => .o
  case bytes=>split<;>first | exact .v | trivial
  all_goals exact .o
 case len b x=>cases b<;>simp only [sem]<;>split<;>first | exact .v | trivial
 case lookup ok kd z m k =>
  simp only [sem]
  split
  ·split
   ·exact .v
   ·refine Ado fun b c es=>?_
    split
    ·exact .v
    ·split<;>first | exact .v | trivial
    ·trivial
  ·trivial
 case mapUpdate kd m k v =>
  simp only [sem]
  split
  ·refine Ado fun b c es=>?_
   split<;>first | exact .w List.mem_cons_self | trivial
  ·trivial
 case mapEntry kd z m k =>
  simp only [sem]
  split
  ·refine Ado fun b c es=>?_
   split
   ·exact .w List.mem_cons_self
   ·split<;>first | exact .w List.mem_cons_self | trivial
   ·trivial
  ·trivial
 case entryStore m s v =>
  simp only [sem]
  refine Ado fun b c es=>?_
  split
  ·split<;>first | exact .w List.mem_cons_self | trivial
  ·trivial
 case mapDelete kd m k =>
  simp only [sem]
  split
  ·split
   ·exact .v
   ·refine Ado fun b c es=>?_
    split<;>first | exact .w List.mem_cons_self | trivial
  ·trivial
 case mapClear m =>
  simp only [sem]
  split
  ·exact .v
  ·exact Ado fun b c es => .w List.mem_cons_self
 case mapLen m =>
  simp only [sem]
  split
  ·exact .v
  ·exact Ado fun b c es => .v
 case range m =>
  simp only [sem]
  split
  ·exact .v
  ·exact Ado fun b c es => .v
 case next it =>
  simp only [sem]
  split
  ·intro blk
   dsimp only
   split
   ·exact .v
   ·refine Ado fun b c es=>?_
    split
    ·trivial
    ·split
     ·exact .w (List.mem_cons_of_mem _ List.mem_cons_self)
     ·exact .v
     ·trivial
   ·trivial
  ·trivial
 case entry it =>
  simp only [sem]
  split
  ·intro blk
   dsimp only
   split
   ·refine Ado fun b c es=>?_
    split
    ·trivial
    ·split
     ·split<;>first | exact .v | trivial
     ·trivial
   ·trivial
  ·trivial
 case nextS it =>
  simp only [sem]
  split
  ·intro blk
   dsimp only
   split
   ·split
    ·exact .w List.mem_cons_self
    ·exact .v
   ·trivial
  ·trivial
 case slice sz x lo hi mx =>
  simp only [sem]
  split
  all_goals (first
   | trivial
   | (repeat' (first
       | exact .v
       | trivial
       | (intro blk;dsimp only)
       | split)))
 all_goals (simp only [sem];first
  | exact .v
  | exact .o
  | trivial
  | (repeat' (first
      | exact .v
      | exact .o
      | trivial
      | exact .w List.mem_cons_self
      | (intro blk;dsimp only)
      | split)))
def NoN:RM Eff→Prop
 | .ok e=>e.new=none
 | .fail=>True
 | .rd _ k=>∀ blk,NoN (k blk)
theorem NoN.run:∀ {m:RM Eff} {S:Store} {e:Eff} {ids:List Nat},NoN m→m.run S=some (e,ids)→e.new=none
 | .ok a,S,e,ids,h,hr=>by
   simp only [RM.run,Option.some.injEq,Prod.mk.injEq] at hr
   obtain⟨rfl,rfl⟩:=hr
   exact h
 | .fail,_,_,_,_,hr=>by simp [RM.run] at hr
 | .rd b k,S,e,ids,h,hr=>by
   obtain⟨blk,l,hb,hk,hi⟩:=AaR hr
   exact(h blk).run hk
theorem NoN.bind {α:Type}:∀ {m:RM α} {f:α→RM Eff},(∀ a,NoN (f a))→NoN (m.bind f)
 | .ok a,f,h=>h a
 | .fail,_,_=>trivial
 | .rd b k,f,h=>fun blk=>NoN.bind h
theorem NoN.o {v:Option AVal}:NoN (Eff.o v):=by
 cases v<;>first | trivial | rfl
theorem AcS {x:AVal} {k:Nat→Nat→List (Nat × AVal × AVal)→RM Eff} (h:∀ b c es,NoN (k b c es)):NoN (AeJ x k):=by
 unfold AeJ
 split
 ·intro blk
  dsimp only
  split
  ·exact h _ _ _
  ·trivial
 ·trivial
theorem sem_non (slot:Nat) (ρ:AOpd→AVal) (op:AOp) (ha:allocs op=false):NoN (sem slot ρ op):=by
 cases op<;>simp only [allocs,Bool.true_eq_false] at ha
 case isNil k neg x=>simp only [sem];exact .bind fun _=>rfl
 case copy sz x y =>
  simp only [sem]
  refine .bind fun ys=>?_
  split<;>first | rfl | trivial | (intro blk;dsimp only;(repeat' (first | rfl | trivial | split)))
 case conv c x =>
  cases c<;>simp only [sem]
  case str=>exact .bind fun _ => .o
  case bytes=>simp [allocs] at ha
  all_goals exact .o
 case len b x=>cases b<;>simp only [sem]<;>split<;>first | rfl | trivial
 case lookup ok kd z m k =>
  simp only [sem]
  split
  ·split
   ·rfl
   ·refine AcS fun b c es=>?_
    split
    ·rfl
    ·split<;>first | rfl | trivial
    ·trivial
  ·trivial
 case mapUpdate kd m k v =>
  simp only [sem]
  split
  ·refine AcS fun b c es=>?_
   split<;>first | rfl | trivial
  ·trivial
 case mapEntry kd z m k =>
  simp only [sem]
  split
  ·refine AcS fun b c es=>?_
   split
   ·rfl
   ·split<;>first | rfl | trivial
   ·trivial
  ·trivial
 case entryStore m s v =>
  simp only [sem]
  refine AcS fun b c es=>?_
  split
  ·split<;>first | rfl | trivial
  ·trivial
 case mapDelete kd m k =>
  simp only [sem]
  split
  ·split
   ·rfl
   ·refine AcS fun b c es=>?_
    split<;>first | rfl | trivial
  ·trivial
 case mapClear m =>
  simp only [sem]
  split
  ·rfl
  ·exact AcS fun b c es=>rfl
 case mapLen m =>
  simp only [sem]
  split
  ·rfl
  ·exact AcS fun b c es=>rfl
 case next it =>
  simp only [sem]
  split
  ·intro blk
   dsimp only
   split
   ·rfl
   ·refine AcS fun b c es=>?_
    split
    ·trivial
    ·split<;>first | rfl | trivial
   ·trivial
  ·trivial
 case entry it =>
  simp only [sem]
  split
  ·intro blk
   dsimp only
   split
   ·refine AcS fun b c es=>?_
    split
    ·trivial
    ·split
     ·split<;>first | rfl | trivial
     ·trivial
   ·trivial
  ·trivial
 all_goals (simp only [sem];first
  | rfl
  | exact .o
  | trivial
  | (repeat' (first
      | rfl
      | exact .o
      | trivial
      | (intro blk;dsimp only)
      | split)))
end Go.Eng
namespace Go.Eng
open Go
variable [Inhabited GlobT]
def toExit:AbV→Exit
 | .normal => .normal
 | .exit id => .exit id
 | .ret => .ret
def Post (A:Nat→Prop) (κ:Kap) (w:World) (N:Nat) (ex:AbV) (st:St) (e:Exit) (a:Act) (w':World):Prop :=
 e=toExit ex∧∃ κ',ExtF κ w κ' w'∧RS A κ' st.S w'∧RF A κ' w' N st.fr a
def KeepN (rec:Rec):Prop:=∀ N c st ex st',hasDefer c=false→rec N c st=some (ex,st')→get st'.fr N=get st.fr N
def Rel (D:Nat→Prop) (O:Nat→Option (Option ABlock)) (S T:Store):Prop:=T.length=S.length∧∀ (b:Nat),(D b→S[b]?=some none∧T[b]?=O b)∧(¬ D b→T[b]?=S[b]?)
def Acf (rec:Rec):Prop:=∀ D O N c st ex st' T,rec N c st=some (ex,st')→Rel D O st.S T→∃ T',rec N c ⟨st.fr,T⟩=some (ex,⟨st'.fr,T'⟩)∧Rel D O st'.S T'
structure AeF (P:Program) (rec:Rec):Prop where
 sim:∀ N c ac st ex st',compileCode P c=some ac→rec N ac st=some (ex,st')→∀ A κ a w,RS A κ st.S w→RF A κ w N st.fr a→c.wp P (Post A κ w N ex st') a w
 keep:KeepN rec
 frame:Acf rec
def Does (P:Program) (f:FuncId) (vs:Array Value) (w:World) (K:Value→World→Prop):Prop :=
 (∃fn,P.funcs[f]?=some fn∧fn.name ≠ "runtime.NumGoroutine" ∧ fn.body.isSome=true∧Calls P f vs w (fun e w'=>∃ v,e = .returned v∧K v w')) ∨
 ∃ v w',(callFunc f vs).run P w = .ok (.value v) w'∧K v w'
def AcA (P:Program) (f:FuncId) (p:Prim):Prop :=
 ∀ A κ S w slot args (vs:List Value) e rds,(p slot args).run S=some (e,rds)→RS A κ S w→κ[slot]?=some none→RepV κ (Avoid A κ) w args vs →
  Does P f vs.toArray w fun v w'=>∃ κ',Ext κ w κ' w'∧RS A κ' (effS slot e S) w'∧Rep κ' (Avoid A κ') w' e.val v∧∀ (j:Nat),j≠slot→κ[j]?=some none→κ'[j]?=some none
def SoundAt (P:Program) (f:FuncId) (as:List AVal) (r:AVal):Prop :=
 ∀ (A:Nat→Prop) (κ:Kap) (S:Store) (w:World) (all:List AVal) (ids:List Nat) (vs:List Value),RS A κ S w→(RM.mapL (frzP AaM) all).run S=some (as,ids)→(norefL all=true∨r.flat=true)→RepV κ (Avoid A κ) w all vs →
  Does P f vs.toArray w fun v w'=>Ext κ w κ w'∧RS A κ S w'∧Rep κ (Avoid A κ) w' r v
def Abb (P:Program) (f:FuncId) (g:List AVal→Option AVal):Prop:=∀ args r,g args=some r→SoundAt P f args r
def DPrimOk (P:Program) (f:FuncId) (p:DPrim):Prop :=
 ∀ A κ S w args (vs:List Value) wr rds,(p args).run S=some (wr,rds)→RS A κ S w→RepV κ (Avoid A κ) w args vs →
  ∃ fn,P.funcs[f]?=some fn∧fn.name ≠ "runtime.NumGoroutine" ∧ fn.body.isSome=true∧CallsD P f vs.toArray .returning w fun e u' w'=>u' = .returning∧(∃v,e = .returned v)∧∃ κ',ExtF κ w κ' w'∧RS A κ' (Abg S wr) w'
def PrimW (p:Prim):Prop:=∀ slot args S e rds,(p slot args).run S=some (e,rds)→∀ x∈e.wr,x.1∈rds
def DPrimW (p:DPrim):Prop:=∀ args S wr rds,(p args).run S=some (wr,rds)→∀ x∈wr,x.1∈rds
structure AOk (P:Program) (A:AaB):Prop where
 fn:∀ f af,A.fn f=some af→Aat P f=some af
 prim:∀ f p,A.prim f=some p→AcA P f p
 pure:∀ f g,A.pure f=some g→Abb P f g
 dprim:∀ f p,A.dprim f=some p→DPrimOk P f p:=by intro f p h;cases h
 wr:∀ f p,A.prim f=some p→PrimW p
 dwr:∀ f p,A.dprim f=some p→DPrimW p:=by intro f p h;cases h
theorem Does.mono {P:Program} {f:FuncId} {vs:Array Value} {w:World} {K K':Value→World→Prop} (h:Does P f vs w K) (hk:∀ v w',K v w'→K' v w'):Does P f vs w K':=by
 rcases h with⟨fn,h1,h2,h3,h4⟩ | ⟨v,w',h1,h2⟩
 ·exact .inl ⟨fn,h1,h2,h3,h4.mono fun e w' ⟨v,hv,h⟩=>⟨v,hv,hk _ _ h⟩⟩
 ·exact .inr ⟨v,w',h1,hk _ _ h2⟩
section
variable {P:Program} {A:Nat→Prop} {κ:Kap} {S:Store} {w:World} {N:Nat} {fr:List AVal} {a:Act} {o:Oper}
theorem call_wp {fo:Operand} {args:Array Operand} {ts:Array TypeId} {f:FuncId} {first cap:Array Value} (ho:o.op = .call ⟨.value fo,args,ts⟩) (hf:a.eval fo = .func (.func f) first cap)
 {K:Act→World→Prop} {Q:Exit→Act→World→Prop} (h:Does P f (first++args.map a.eval++cap) w fun v w'=>K (a.put o.dst v) w'):o.wp P a w K Q:=by
 have hrun:(execOp a.eval o).run P w=(callFunc f (first++args.map a.eval++cap)).run P w:=by
  simp [execOp,ho,resolve,Deferred.ofValue,hf,invoke]
 unfold Oper.wp
 rw [hrun]
 rcases h with⟨fn,h1,h2,h3,h4⟩ | ⟨v,w',h1,h2⟩
 ·have:(callFunc f (first++args.map a.eval++cap)).run P w = .ok (.enter f (first++args.map a.eval++cap)) w:=by
   obtain⟨b,hb⟩:=Option.isSome_iff_exists.1 h3
   simp [callFunc,h1,h2,hb]
  rw [this,Oper.upon_enter]
  exact h4.mono fun e w' ⟨v,hv,hk⟩=>by subst hv;exact hk
 ·rw [h1,Oper.upon_value];exact h2
theorem res_wp {e:Eff} {slot:Nat} {K:Act→World→Prop} {Q:Exit→Act→World→Prop} (h:Res A κ S w slot e ((execOp a.eval o).run P w))
 (hk:∀ v w' κ',Ext κ w κ' w'→RS A κ' (effS slot e S) w'→Rep κ' (Avoid A κ') w' e.val v→(∀ (j:Nat),j≠slot→κ[j]?=some none→κ'[j]?=some none)→K (a.put o.dst v) w'):o.wp P a w K Q:=by
 obtain⟨v,w',κ',h1,h2,h3,h4,h5⟩:=h
 unfold Oper.wp
 rcases h1 with h1 | ⟨h1,rfl⟩
 ·rw [h1,Oper.upon_value];exact hk v w' κ' h2 h3 h4 h5
 ·rw [h1,Oper.upon_skip];exact hk undef w' κ' h2 h3 h4 h5
theorem ares_spec (hS:RS A κ S w) (hF:RF A κ w N fr a):∀ (rs:List ResultVar) (qs:List ARes) (vs:List AVal),resA P rs=some qs→AkK ⟨fr,S⟩ qs=some vs →
 ∃ us:List Value,(rs.mapM fun
  | .tmp t=>pure (a.tmps.getD t undef)
  | .cell x t=>do loadVar t (←asAddr (a.tmps.getD x undef)):Sem (List Value)).run P w = .ok us w∧RepV κ (Avoid A κ) w vs us
 | [],qs,vs,h,hv=>by
   simp [resA] at h;subst h
   simp [AkK] at hv;subst hv
   exact⟨[],rfl,.nil⟩
 | .tmp t::rs,qs,vs,h,hv=>by
   simp only [resA] at h
   cases hr:resA P rs with
   | none=>simp [hr] at h
   | some qs' =>
     simp [hr] at h;subst h
     simp only [AkK,ares] at hv
     split at hv
     ·rename_i v vs' h1 h2
      cases h1;cases hv
      obtain⟨us,g1,g2⟩:=ares_spec hS hF rs qs' vs' hr h2
      refine⟨a.tmps.getD t undef::us,?_,.cons (hF.tmp t) g2⟩
      simp only [List.mapM_cons,Sem.run_bind,Sem.run_pure,Result.andThen_ok]
      erw [g1]
      rfl
     ·cases hv
 | .cell x t::rs,qs,vs,h,hv=>by
   simp only [resA] at h
   split at h
   ·rename_i g n qs' hsh hr
    cases h
    simp only [AkK] at hv
    split at hv
    ·rename_i v vs' h1 h2
     cases hv
     obtain⟨us,g1,g2⟩:=ares_spec hS hF rs qs' vs' hr h2
     simp only [ares] at h1
     split at h1
     ·rename_i e ids he
      cases h1
      obtain⟨ad,u,k3,k1,k2,-⟩:=load_run (P:=P) (fr:=fr) (y := .t x) (u:=a.eval (.tmp x)) hS hsh (hF.tmp x) he
      refine⟨u::us,?_,.cons k2 g2⟩
      have k3:a.tmps.getD x undef = .pointer (some ad):=k3
      simp only [List.mapM_cons,Sem.run_bind,k3,asAddr,Sem.run_pure,Result.andThen_ok,k1]
      erw [g1]
      rfl
     ·cases h1
    ·cases hv
   ·cases h
theorem Agm (hS:RS A κ S w) (hF:RF A κ w N fr a) {f:Func} {qs:List ARes} {vs:List AVal} (hr:resA P f.results.toList=some qs) (hv:AkK ⟨fr,S⟩ qs=some vs) :
 ∃ v,(results f a.tmps).run P w = .ok v w∧Rep κ (Avoid A κ) w (one vs) v:=by
 obtain⟨us,h1,h2⟩:=ares_spec (P:=P) hS hF _ _ _ hr hv
 have hm:∀ g:ResultVar→Sem Value,(f.results.toList.mapM g).run P w = .ok us w→(f.results.mapM g).run P w = .ok us.toArray w:=fun g hg=>by
  rw [Array.mapM_eq_mapM_toList]
  simp only [Sem.run_map,hg,Result.andThen_ok]
 have hm':=hm _ h1
 refine⟨if h:us.toArray.size=1 then us.toArray[0] else .tuple us.toArray,?_,?_⟩
 ·simp only [results,Sem.run_bind]
  erw [hm']
  rfl
 ·match vs,us,h2 with
  | [],[],_=>exact Abv (xs:=#[]) .nil
  | [v],[u],h2=>exact h2.head
  | v1::v2::vs,u1::u2::us,h2 =>
    rw [dif_neg (by simp)]
    exact Abv (xs:=(u1::u2::us).toArray) (by simpa using h2)
  | [],u::us,h2=>have:=h2.1;simp at this
  | [v],[],h2=>have:=h2.1;simp at this
  | [v],u1::u2::us,h2=>have:=h2.1;simp at this
  | v1::v2::vs,[],h2=>have:=h2.1;simp at this
  | v1::v2::vs,[u],h2=>have:=h2.1;simp at this
theorem compileAt_spec {f:FuncId} {af:AFunc} (h:Aat P f=some af):∃ fn b,P.funcs[f]?=some fn∧fn.body=some b∧fn.name ≠ "runtime.NumGoroutine" ∧ compileCode P b=some af.body ∧
 resA P fn.results.toList=some af.res∧af.N=fn.ntmps∧af.dfOf=hasDefer af.body:=by
 unfold Aat at h
 cases hf:P.funcs[f]? with
 | none=>simp [hf] at h
 | some fn =>
   simp only [hf,Option.bind_some,compileFunc] at h
   split at h
   ·cases h
   ·rename_i b hb
    split at h
    ·cases h
    ·rename_i hn
     split at h
     ·rename_i c rs h1 h2
      cases h
      exact⟨fn,b,rfl,hb,hn,h1,h2,rfl,rfl⟩
     ·cases h
theorem get_nil:∀ t,get [] t = .undef
 | 0=>rfl
 | _+1=>rfl
theorem get_rep {κ:Kap} {T:Nat→Prop} {w:World}:∀ {vs:List AVal} {us:List Value},RepV κ T w vs us→∀ (t:Nat) (rest:List Value),Rep κ T w (get vs t) ((us++rest)[t]?.getD undef)
 | [],us,h,t,rest=>by rw [get_nil];trivial
 | v::vs,[],h,t,rest=>by have:=h.1;simp at this
 | v::vs,u::us,h,0,rest=>by simpa [get] using h.head
 | v::vs,u::us,h,t+1,rest=>by simpa [get] using get_rep h.tail t rest
theorem AlN:∀ (l:List AVal) (n:Nat),l.length≤n→get l n = .undef
 | [],n,_=>get_nil n
 | _::_,0,h=>by simp at h
 | _::l,n+1,h=>by simpa [get] using AlN l n (by simpa using h)
theorem leaves_run {AP:AaB} (hA:AOk P AP) {fn:Func} {tmps:Array Value} {R:Ending→World→Prop}:∀ (v:AVal) (l:List Deferred) (S S2:Store) (κ:Kap) (w:World),DfOk κ (Avoid A κ) w v l→RS A κ S w→AcN AP v S=some S2 →
 (∀ κ2 w2,ExtF κ w κ2 w2→RS A κ2 S2 w2→∃ u,(results fn tmps).run P w2 = .ok u w2∧R (.returned u) w2)→Leaves P fn tmps R l .returning w
 | .note f args rest,l,S,S2,κ,w,hd,hS,h,hk=>by
   obtain⟨⟨tg,dargs⟩,l',rfl,h2,h3,h4⟩:=hd
   simp only at h2 h3
   subst h2
   simp only [AcN] at h
   split at h
   ·rename_i p hp
    split at h
    ·rename_i wr rds hr
     obtain⟨fnd,q1,q2,q3,q4⟩:=hA.dprim f p hp A κ S w args dargs.toList wr rds hr hS h3
     refine leaves_cons (f:=f) (args:=dargs) (fun h=>nomatch h) ?_ ?_
     ·obtain⟨b,hb⟩:=Option.isSome_iff_exists.1 q3
      simp [invoke,callFunc,q1,q2,hb]
     ·refine q4.mono ?_
      rintro e u' w' ⟨rfl,⟨v,rfl⟩,κ',k1,k2⟩
      exact leaves_run hA rest l' _ S2 κ' w' (h4.mono (k1.pres A)) k2 h fun κ2 w2 e2 s2=>hk κ2 w2 (k1.trans e2) s2
    ·cases h
   ·cases h
 | .undef,l,S,S2,κ,w,hd,hS,h,hk | .bool _,l,S,S2,κ,w,hd,hS,h,hk | .int ..,l,S,S2,κ,w,hd,hS,h,hk | .flt ..,l,S,S2,κ,w,hd,hS,h,hk | .nanv _,l,S,S2,κ,w,hd,hS,h,hk | .str _,l,S,S2,κ,w,hd,hS,h,hk | .ptr ..,l,S,S2,κ,w,hd,hS,h,hk
 | .rptr _,l,S,S2,κ,w,hd,hS,h,hk | .nilp,l,S,S2,κ,w,hd,hS,h,hk | .imm _,l,S,S2,κ,w,hd,hS,h,hk | .lim _,l,S,S2,κ,w,hd,hS,h,hk | .nils,l,S,S2,κ,w,hd,hS,h,hk | .enil,l,S,S2,κ,w,hd,hS,h,hk
 | .tnil _,l,S,S2,κ,w,hd,hS,h,hk | .view ..,l,S,S2,κ,w,hd,hS,h,hk | .aview ..,l,S,S2,κ,w,hd,hS,h,hk | .fn ..,l,S,S2,κ,w,hd,hS,h,hk | .nilfn,l,S,S2,κ,w,hd,hS,h,hk | .iface ..,l,S,S2,κ,w,hd,hS,h,hk
 | .niliface,l,S,S2,κ,w,hd,hS,h,hk | .agg _,l,S,S2,κ,w,hd,hS,h,hk | .tuple _,l,S,S2,κ,w,hd,hS,h,hk | .mapv _,l,S,S2,κ,w,hd,hS,h,hk | .nilmap,l,S,S2,κ,w,hd,hS,h,hk=>by
   have hd:l=[]:=hd
   subst hd
   simp only [AcN] at h
   cases h
   exact hk κ w (.refl _ _) hS
theorem Acn {AP:AaB} (hA:AOk P AP) {rec:Rec} (hrec:AeF P rec) {f:FuncId} {args:List AVal} {r:AVal} {S':Store} (h:callS AP rec f args S=some (r,S'))
 (hS:RS A κ S w) {vs:List Value} (hv:RepV κ (Avoid A κ) w args vs) :
 Does P f vs.toArray w fun v w'=>∃ κ',ExtF κ w κ' w'∧RS A κ' S' w'∧Rep κ' (Avoid A κ') w' r v:=by
 unfold callS at h
 split at h
 ·cases h
 ·rename_i af haf
  split at h
  ·rename_i hlen
   split at h
   ·rename_i res hres
    obtain⟨ex,st'⟩:=res
    obtain⟨fn,b,h1,h2,h3,h4,h5,h6,h7⟩:=compileAt_spec (hA.fn f af haf)
    have hund:get args (max af.nargs af.N) = .undef:=AlN _ _ (by omega)
    have hF:RF A κ w (max af.nargs af.N) args {tmps:=vs.toArray++Array.replicate (fn.ntmps - vs.toArray.size) undef,defers:=[]}:=by
     have hl:vs.length=af.nargs:=by rw [←hlen];exact hv.1.symm
     refine⟨by rw [hund];rfl,by simp [hl,h6];omega,fun t=>?_,hS.gl⟩
     have:=get_rep hv t (List.replicate (fn.ntmps - vs.length) undef)
     simp only [Act.eval]
     rw [Array.getD_eq_getD_getElem?]
     have e:(vs.toArray++Array.replicate (fn.ntmps - vs.toArray.size) undef)[t]?=(vs++List.replicate (fn.ntmps - vs.length) undef)[t]?:=by
      rw [←Array.getElem?_toList];simp
     rw [e];exact this
    cases hdf:af.dfOf with
    | false =>
      rw [hdf] at h
      refine .inl ⟨fn,h1,h3,by simp [h2],calls_of_wp h1 h2 ?_⟩
      have hkp:=hrec.keep _ af.body ⟨args,S⟩ ex st' (by rw [←h7];exact hdf) hres
      refine wp_mono (hrec.sim _ b af.body ⟨args,S⟩ ex st' h4 hres A κ _ w hS hF) ?_
      rintro e a' w' ⟨rfl,κ',k1,k2,k3⟩
      have hd0:a'.defers=[]:=by
       have:=k3.defers
       rw [hkp,hund] at this
       exact this
      cases ex with
      | exit id=>simp [finish] at h
      | normal =>
        simp only [finish] at h
        split at h
        ·rename_i us hus
         cases h
         obtain⟨v,g1,g2⟩:=Agm (P:=P) k2 k3 h5 hus
         exact⟨hd0,v,g1,v,rfl,κ',k1,k2,g2⟩
        ·cases h
      | ret =>
        simp only [finish] at h
        split at h
        ·rename_i us hus
         cases h
         obtain⟨v,g1,g2⟩:=Agm (P:=P) k2 k3 h5 hus
         exact⟨hd0,v,g1,v,rfl,κ',k1,k2,g2⟩
        ·cases h
    | true =>
      rw [hdf] at h
      simp only at h
      split at h
      ·rename_i S2 hS2
       refine .inl ⟨fn,h1,h3,by simp [h2],calls_of_wp_defers h1 h2 ?_⟩
       refine wp_mono (hrec.sim _ b af.body ⟨args,S⟩ ex st' h4 hres A κ _ w hS hF) ?_
       rintro e a' w' ⟨rfl,κ',k1,k2,k3⟩
       have hfin:∀ us,AkK ⟨st'.fr,S2⟩ af.res=some us→r=one us→S'=S2→Leaves P fn a'.tmps (fun e w'=>∃ v,e = .returned v∧∃ κ',ExtF κ w κ' w'∧RS A κ' S' w'∧Rep κ' (Avoid A κ') w' r v) a'.defers .returning w':=by
        rintro us hus rfl rfl
        refine leaves_run hA _ _ _ _ κ' w' k3.defers k2 hS2 fun κ2 w2 e2 s2=>?_
        obtain⟨v,g1,g2⟩:=Agm (P:=P) (a:=a') s2 (k3.mono e2) h5 hus
        exact⟨v,g1,v,rfl,κ2,k1.trans e2,s2,g2⟩
       cases ex with
       | exit id=>simp [finish] at h
       | normal =>
         simp only [finish] at h
         split at h
         ·rename_i us hus
          cases h
          exact hfin us hus rfl rfl
         ·cases h
       | ret =>
         simp only [finish] at h
         split at h
         ·rename_i us hus
          cases h
          exact hfin us hus rfl rfl
         ·cases h
      ·cases h
   ·cases h
  ·cases h
end
end Go.Eng
namespace Go.Eng
open Go
variable [Inhabited GlobT]
section
variable {P:Program} {A:Nat→Prop} {κ κ':Kap} {S:Store} {w w':World} {T T':Nat→Prop}
section
variable (hT:∀ c,¬ T c→¬ T' c)
include hT
mutual
theorem Aea:∀ (a:AVal) (v:Value),a.noref=true→Rep κ T w a v→Rep κ' T' w a v
 | .undef,_,_,_=>trivial
 | .bool _,_,_,h=>h
 | .int _ _,_,_,h=>h
 | .flt _ _,_,_,h=>h
 | .nanv _,_,_,h=>h
 | .str _,_,_,h=>h
 | .ptr b i f,v,hc,h=>by simp [AVal.noref] at hc
 | .rptr cs,v,hc,h=>by
   obtain⟨cb,o,h1,h2,h3,h4⟩:=h
   exact⟨cb,o,h1,h2,hT _ h3,AcY cs _ (by simpa [AVal.noref] using hc) h4⟩
 | .nilp,_,_,h=>h
 | .imm rows,v,hc,h=>by
   obtain⟨a,len,cap,h1,h2,h3,hn,h4⟩:=h
   refine⟨a,len,cap,h1,h2,h3,hn,fun hr=>?_⟩
   obtain⟨sz,cb,o,h5,h6,h7,h8⟩:=h4 hr
   exact⟨sz,cb,o,h5,h6,hT _ h7,Aci rows sz _ (by simpa [AVal.noref] using hc) h8⟩
 | .lim rows,v,hc,h=>by
   obtain⟨a,len,cap,h1,h2,h3,hn,h4⟩:=h
   refine⟨a,len,cap,h1,h2,h3,hn,fun hr=>?_⟩
   obtain⟨sz,cb,o,h5,h6,h7,h8⟩:=h4 hr
   exact⟨sz,cb,o,h5,h6,hT _ h7,Aci rows sz _ (by simpa [AVal.noref] using hc) h8⟩
 | .nils,_,_,h=>h
 | .enil,_,_,h=>h
 | .tnil _,_,_,h=>h
 | .view ..,_,hc,_=>by simp [AVal.noref] at hc
 | .aview ..,_,hc,_=>by simp [AVal.noref] at hc
 | .fn f a b,v,hc,h=>by
   obtain⟨x,y,h1,h2,h3,h4,h5⟩:=h
   simp only [AVal.noref,Bool.and_eq_true] at hc
   exact⟨x,y,h1,h2,h3,AcY a _ hc.1 h4,AcY b _ hc.2 h5⟩
 | .nilfn,_,_,h=>h
 | .iface t u,v,hc,h=>by
   obtain⟨x,h1,h2⟩:=h
   exact⟨x,h1,Aea u x (by simpa [AVal.noref] using hc) h2⟩
 | .niliface,_,_,h=>h
 | .nilmap,_,_,h=>h
 | .agg cs,v,hc,h=>by
   obtain⟨xs,h1,h2,h3⟩:=h
   exact⟨xs,h1,h2,AcY cs _ (by simpa [AVal.noref] using hc) h3⟩
 | .tuple cs,v,hc,h=>by
   obtain⟨xs,h1,h2,h3⟩:=h
   exact⟨xs,h1,h2,AcY cs _ (by simpa [AVal.noref] using hc) h3⟩
theorem AcY:∀ (vs:List AVal) (g:Nat→Option Value),norefL vs=true→RepL κ T w vs g→RepL κ' T' w vs g
 | [],_,_,_=>trivial
 | x::xs,g,hc,h=>by
   obtain⟨⟨v,h1,h2⟩,h3⟩:=h
   simp only [norefL,Bool.and_eq_true] at hc
   exact⟨⟨v,h1,Aea x v hc.1 h2⟩,AcY xs _ hc.2 h3⟩
theorem Aci:∀ (vs:List (List AVal)) (sz:Nat) (g:Nat→Option Value),Abn vs=true→Abz κ T w vs sz g→Abz κ' T' w vs sz g
 | [],_,_,_,_=>trivial
 | x::xs,sz,g,hc,h=>by
   obtain⟨h1,h2,h3⟩:=h
   simp only [Abn,Bool.and_eq_true] at hc
   exact⟨h1,AcY x _ hc.1 h2,Aci xs sz _ hc.2 h3⟩
end
end
mutual
theorem Ajb:∀ (a:AVal) (v:Value),a.flat=true→Rep κ T w a v→Rep κ' T' w a v
 | .undef,_,_,_=>trivial
 | .bool _,_,_,h=>h
 | .int _ _,_,_,h=>h
 | .flt _ _,_,_,h=>h
 | .nanv _,_,_,h=>h
 | .str _,_,_,h=>h
 | .ptr ..,v,hc,h=>by simp [AVal.flat] at hc
 | .rptr _,v,hc,h=>by simp [AVal.flat] at hc
 | .nilp,_,_,h=>h
 | .imm _,v,hc,h=>by simp [AVal.flat] at hc
 | .lim _,v,hc,h=>by simp [AVal.flat] at hc
 | .nils,_,_,h=>h
 | .enil,_,_,h=>h
 | .tnil _,_,_,h=>h
 | .view ..,_,hc,_=>by simp [AVal.flat] at hc
 | .aview ..,_,hc,_=>by simp [AVal.flat] at hc
 | .fn ..,v,hc,h=>by simp [AVal.flat] at hc
 | .nilfn,_,_,h=>h
 | .iface t u,v,hc,h=>by
   obtain⟨x,h1,h2⟩:=h
   exact⟨x,h1,Ajb u x (by simpa [AVal.flat] using hc) h2⟩
 | .niliface,_,_,h=>h
 | .nilmap,_,_,h=>h
 | .agg cs,v,hc,h=>by
   obtain⟨xs,h1,h2,h3⟩:=h
   exact⟨xs,h1,h2,Ajc cs _ (by simpa [AVal.flat] using hc) h3⟩
 | .tuple cs,v,hc,h=>by
   obtain⟨xs,h1,h2,h3⟩:=h
   exact⟨xs,h1,h2,Ajc cs _ (by simpa [AVal.flat] using hc) h3⟩
theorem Ajc:∀ (vs:List AVal) (g:Nat→Option Value),flatL vs=true→RepL κ T w vs g→RepL κ' T' w vs g
 | [],_,_,_=>trivial
 | x::xs,g,hc,h=>by
   obtain⟨⟨v,h1,h2⟩,h3⟩:=h
   simp only [flatL,Bool.and_eq_true] at hc
   exact⟨⟨v,h1,Ajb x v hc.1 h2⟩,Ajc xs _ hc.2 h3⟩
end
theorem GOk.weak {T T':Nat→Prop} {w:World} (h:GOk T w) (ht:∀ c,T' c→T c):GOk T' w:=fun g cs hg =>
 ⟨(h g cs hg).1,fun hc=>(h g cs hg).2.1 (ht g hc),(h g cs hg).2.2⟩
theorem Afo (hA:∀ c,A c→c<w.heap.size) (hg:GOk A w):RS A [] [] w :=
 ⟨rfl,fun b h=>by simp at h,fun b blk h=>by simp at h,fun b b' x x' h=>by simp at h,fun c hc=>⟨hA c hc,by rintro⟨b,x,h,_⟩;simp at h⟩,
   hg.weak fun c hc=>by
    rcases hc with h | ⟨b,x,h,_⟩
    ·exact h
    ·simp at h⟩
theorem AdB (c:Nat):Avoid T [] c↔T c:=by
 constructor
 ·rintro(h | ⟨b,x,h,_⟩)
  ·exact h
  ·simp at h
 ·exact .inl
theorem RS.avoid_lt (h:RS A κ S w) (c:Nat) (hc:Avoid A κ c):c<w.heap.size:=by
 rcases hc with hc | ⟨b,x,hb,rfl⟩
 ·exact(h.av c hc).1
 ·exact h.lt hb
theorem AhQ (h:RS A κ S w) {κ1:Kap} (he:Ext [] w κ1 w'):Ext κ w κ w'∧RS A κ S w':=by
 have hold:∀ c,c<w.heap.size→w'.heap[c]?=w.heap[c]?:=fun c hc=>(he.keep c (by rintro⟨b,x,h,_⟩;simp at h) hc).2
 have hext:Ext κ w κ w':=⟨fun _ e hb=>⟨e,hb,.inr rfl⟩,he.size,fun c hn hl=>⟨hn,hold c hl⟩,he.shape,he.env⟩
 refine⟨hext,⟨h.len,h.dead,fun b blk hb=>?_,h.inj,fun c hc=>⟨Nat.lt_of_lt_of_le (h.av c hc).1 he.size,(h.av c hc).2⟩,h.gl.mono hext⟩⟩
 obtain⟨x,hx,hok⟩:=h.live b blk hb
 exact⟨x,hx,hok.mono hext (hold _ (h.lt hx))⟩
theorem callI_sound {AP:AaB} (hA:AOk P AP) {rec:Rec} (hrec:AeF P rec) {f:FuncId} {all as:List AVal} {r:AVal} {ids:List Nat} {vs:List Value} (hS:RS A κ S w)
 (hf:(RM.mapL (frzP AaM) all).run S=some (as,ids)) (h:AbF AP rec f as=some r) (hn:norefL all=true∨r.flat=true) (hv:RepV κ (Avoid A κ) w all vs) :
 Does P f vs.toArray w fun v w'=>Ext κ w κ w'∧RS A κ S w'∧Rep κ (Avoid A κ) w' r v:=by
 unfold AbF at h
 split at h
 ·rename_i r0 S1 hc
  split at h
  ·rename_i r' ids' hr
   cases h
   by_cases hno:norefL all=true
   ·have hargs:RepV [] (Avoid (Avoid A κ) []) w as vs:=AlP (T':=Avoid (Avoid A κ) []) hS (fun c hc h=>hc ((AdB c).1 h)) hf (.inl hno) hv
    refine(Acn hA hrec hc (Afo (A:=Avoid A κ) (fun c hc=>hS.avoid_lt c hc) hS.gl) hargs).mono ?_
    rintro v w' ⟨κ1,⟨k1,_⟩,k2,k3⟩
    obtain⟨g1,g2⟩:=AhQ hS k1
    exact⟨g1,g2,(Ann (T':=Avoid A κ) k2 (fun c hc h=>hc (.inl h)) _ _ _ _ _ hr (.inr fun b y hb hT=>(k2.av _ hT).2 ⟨b,y,hb,rfl⟩) k3).2⟩
   ·have hfl:=hn.resolve_left hno
    have hargs:RepV [] (Avoid A []) w as vs:=AlP (T':=Avoid A []) hS (fun c hc h=>hc (.inl ((AdB c).1 h))) hf
     (.inr fun b y hb hT=>(hS.av _ ((AdB _).1 hT)).2 ⟨b,y,hb,rfl⟩) hv
    refine(Acn hA hrec hc (Afo (A:=A) (fun c hc=>(hS.av c hc).1) (hS.gl.weak fun c hc => .inl hc)) hargs).mono ?_
    rintro v w' ⟨κ1,⟨k1,_⟩,k2,k3⟩
    obtain⟨g1,g2⟩:=AhQ hS k1
    have:=(Ann (κ2:=κ) (T':=A) k2 (fun c hc h=>hc (.inl h)) _ _ _ _ _ hr (.inr fun b y hb hT=>(k2.av _ hT).2 ⟨b,y,hb,rfl⟩) k3).2
    exact⟨g1,g2,Ajb _ _ hfl this⟩
  ·cases h
 ·cases h
theorem AmX {κ κ':Kap} {T T':Nat→Prop} {w:World}:∀ (rows:List (List AVal)) (sz:Nat) (g:Nat→Option Value),rows.all flatL=true→Abz κ T w rows sz g→Abz κ' T' w rows sz g
 | [],_,_,_,_=>trivial
 | r::rs,sz,g,h,hr=>by
   simp only [List.all_cons,Bool.and_eq_true] at h
   exact⟨hr.1,Ajc r _ h.1 hr.2.1,AmX rs sz _ h.2 hr.2.2⟩
theorem fresh_rep {κ1:Kap} {S1:Store} {n:Nat} {x y:AVal} {v:Value} {ids:List Nat} (hS:RS A κ S w) (k1:Ext [] w κ1 w') (k2:RS A κ1 S1 w') (hf:freshV x y=true) (hr:(frzP n x).run S1=some (y,ids)) (k3:Rep κ1 (Avoid A κ1) w' x v) :
 Rep κ (Avoid A κ) w' y v:=by
 have hy:=(Ann (κ2:=κ) (T':=A) k2 (fun c hc h=>hc (.inl h)) _ _ _ _ _ hr (.inr fun b y hb hT=>(k2.av _ hT).2 ⟨b,y,hb,rfl⟩) k3).2
 unfold freshV at hf
 split at hf
 ·rename_i b off len full rows
  obtain⟨a,l,cap,h1,h2,h3,h4,h5⟩:=hy
  refine⟨a,l,cap,h1,h2,h3,h4,fun hne=>?_⟩
  obtain⟨sz,cb,o,q1,q2,q3,q4⟩:=h5 hne
  refine⟨sz,cb,o,q1,q2,?_,AmX _ _ _ hf q4⟩
  rintro(hA | ht)
  ·exact q3 hA
  ·
   have hlive:∃ blk,S1[b]?=some (some blk):=by
    cases n with
    | zero =>
      simp only [frzG,AVal.closed,Bool.false_eq_true,if_false,if_true,RM.run,Option.some.injEq,Prod.mk.injEq] at hr
      exact nomatch hr.1
    | succ n =>
      simp only [frzG,AVal.closed,Bool.false_eq_true,if_false] at hr
      obtain⟨blk,_,hb,_,_⟩:=AaR hr
      exact⟨blk,hb⟩
   obtain⟨blk,hb⟩:=hlive
   obtain⟨xk,hxk,hbk⟩:=k2.live b blk hb
   obtain⟨e,cb',o',cap',p1,p2,p3⟩:=k3
   rw [hxk] at p1;cases p1
   rw [h1,q1] at p2
   simp only [Value.slice.injEq,Option.some.injEq,Addr.mk.injEq,and_true] at p2
   obtain⟨⟨rfl,rfl⟩,rfl,rfl⟩:=p2
   obtain⟨_,_,_,p4,_⟩:=p3 xk rfl
   have hpos:0<cap:=by
    have:0<rows.length:=List.length_pos_iff.2 hne
    omega
   have hcb:=(p4 hpos).1
   obtain⟨b2,x2,g1,g2⟩:=ht
   have hlt:=hS.lt g1
   have:=(k1.keep cb (by rintro⟨_,_,h,_⟩;simp at h) (by omega)).1
   exact this ⟨b,xk,hxk,hcb.symm⟩
 ·obtain⟨a,l,cap,h1,h2,h3,h4,h5⟩:=hy
  exact⟨a,l,cap,h1,h2,h3,h4,fun hne=>absurd rfl hne⟩
 ·exact Ajb _ _ hf hy
theorem frz_closed {p:Bool} {n:Nat} {v:AVal} (h:v.closed=true):(frzG p n v).run S=some (v,[]):=by
 cases n<;>simp [frzG,h,RM.run]
theorem closedL_get:∀ {l:List AVal} {i:Nat} {x:AVal},AaC l=true→l[i]?=some x→x.closed=true
 | [],i,x,_,h=>by simp at h
 | y::l,0,x,hn,h=>by simp at h;subst h;simp only [AaC,Bool.and_eq_true] at hn;exact hn.1
 | y::l,i+1,x,hn,h=>by simp only [AaC,Bool.and_eq_true] at hn;exact closedL_get hn.2 (by simpa using h)
theorem frz_tuple {p:Bool} {n:Nat} {xs ys:List AVal} {ids:List Nat} (hr:(frzG p (n+1) (.tuple xs)).run S=some (.tuple ys,ids)) (i:Nat) (x:AVal) (hx:xs[i]?=some x):∃ y ids,ys[i]?=some y∧(frzG p n x).run S=some (y,ids):=by
 simp only [frzG] at hr
 split at hr
 ·rename_i hcl
  simp only [RM.run,Option.some.injEq,Prod.mk.injEq,AVal.tuple.injEq] at hr
  obtain⟨rfl,-⟩:=hr
  exact⟨x,[],hx,frz_closed (closedL_get (by simpa [AVal.closed] using hcl) hx)⟩
 ·obtain⟨cs,i1,i2,h1,h2,-⟩:=run_bind hr
  simp only [RM.run,Option.some.injEq,Prod.mk.injEq,AVal.tuple.injEq] at h2
  obtain⟨rfl,-⟩:=h2
  obtain⟨y,ids,q1,q2⟩:=(Adu h1).2 i x hx
  exact⟨y,ids,q1,q2⟩
theorem freshL_get:∀ {xs ys:List AVal},freshL xs ys=true→xs.length=ys.length∧∀ (i:Nat) x y,xs[i]?=some x→ys[i]?=some y→freshV x y=true
 | [],[],_=>⟨rfl,fun i x y h=>by simp at h⟩
 | [],_::_,h=>by simp [freshL] at h
 | _::_,[],h=>by simp [freshL] at h
 | x::xs,y::ys,h=>by
   simp only [freshL,Bool.and_eq_true] at h
   obtain⟨h1,h2⟩:=freshL_get h.2
   refine⟨by simp [h1],fun i a b ha hb=>?_⟩
   cases i with
   | zero=>simp at ha hb;subst ha hb;exact h.1
   | succ i=>exact h2 i a b (by simpa using ha) (by simpa using hb)
theorem callI_fresh {AP:AaB} (hA:AOk P AP) {rec:Rec} (hrec:AeF P rec) {f:FuncId} {all as:List AVal} {r:AVal} {ids:List Nat} {vs:List Value} (hS:RS A κ S w)
 (hf:(RM.mapL (frzP AaM) all).run S=some (as,ids)) (h:AbF AP rec f as=some r) (hp:AP.pure f=none) (hn:Alc AP rec f as=true) (hv:RepV κ (Avoid A κ) w all vs) :
 Does P f vs.toArray w fun v w'=>Ext κ w κ w'∧RS A κ S w'∧Rep κ (Avoid A κ) w' r v:=by
 unfold AbF at h
 split at h
 ·rename_i r0 S1 hc
  split at h
  ·rename_i r' ids' hr
   cases h
   unfold Alc at hn
   rw [hp] at hn
   simp only [hc,hr] at hn
   have hargs:RepV [] (Avoid A []) w as vs:=AlP (T':=Avoid A []) hS (fun c hc h=>hc (.inl ((AdB c).1 h))) hf
    (.inr fun b y hb hT=>(hS.av _ ((AdB _).1 hT)).2 ⟨b,y,hb,rfl⟩) hv
   refine(Acn hA hrec hc (Afo (A:=A) (fun c hc=>(hS.av c hc).1) (hS.gl.weak fun c hc => .inl hc)) hargs).mono ?_
   rintro v w' ⟨κ1,⟨k1,_⟩,k2,k3⟩
   obtain⟨g1,g2⟩:=AhQ hS k1
   refine⟨g1,g2,?_⟩
   split at hn
   ·rename_i xs ys
    obtain⟨l1,l2⟩:=freshL_get hn
    obtain⟨zs,rfl,hz⟩:=rep_tuple k3
    refine Abv ⟨l1.symm.trans hz.1,fun i y u hy hu=>?_⟩
    have hil:i<xs.length:=by rw [l1];exact(List.getElem?_eq_some_iff.1 hy).1
    have hx:xs[i]?=some xs[i]:=by simp [hil]
    obtain⟨y',ids2,q1,q2⟩:=frz_tuple (n:=5) hr i _ hx
    rw [hy] at q1;cases q1
    exact fresh_rep hS k1 k2 (l2 i _ _ hx hy) q2 (hz.2 i _ _ hx hu)
   ·exact fresh_rep hS k1 k2 hn hr k3
  ·cases h
 ·cases h
def Ada:Kap→List Nat→Kap
 | κ,[]=>κ
 | κ,b::r=>Ada (κ.set b (some none)) r
theorem AkZ:∀ (ids:List Nat) (κ:Kap),(Ada κ ids).length=κ.length
 | [],_=>rfl
 | b::r,κ=>by rw [Ada,AkZ r];simp
theorem AcT:∀ (ids:List Nat) (κ:Kap) (j:Nat),(Ada κ ids)[j]?=if j∈ids∧j<κ.length then some (some none) else κ[j]?
 | [],κ,j=>by simp [Ada]
 | b::r,κ,j=>by
   rw [Ada,AcT r,Aag]
   by_cases h1:j∈r
   ·by_cases h2:j<κ.length<;>simp [h1,h2]
    intro hb;omega
   ·by_cases h2:b=j
    ·subst h2;by_cases h3:b<κ.length<;>simp [h1,h3]
    ·have:¬ j=b:=fun h=>h2 h.symm
     simp [h1,h2,this]
theorem Aen:∀ (ids:List Nat) (S:Store),(Abg S (ids.map fun b=>(b,none))).length=S.length
 | [],_=>rfl
 | b::r,S=>by rw [List.map_cons,Abg,Aen r];simp
theorem AbY:∀ (ids:List Nat) (S:Store) (j:Nat),(Abg S (ids.map fun b=>(b,none)))[j]?=if j∈ids∧j<S.length then some none else S[j]?
 | [],S,j=>by simp [Abg]
 | b::r,S,j=>by
   rw [List.map_cons,Abg,AbY r,Aag]
   by_cases h1:j∈r
   ·by_cases h2:j<S.length<;>simp [h1,h2]
    intro hb;omega
   ·by_cases h2:b=j
    ·subst h2;by_cases h3:b<S.length<;>simp [h1,h3]
    ·have:¬ j=b:=fun h=>h2 h.symm
     simp [h1,h2,this]
theorem AjT:∀ {l:List Nat},nodup l=true→∀ (i j:Nat) x,l[i]?=some x→l[j]?=some x→i=j
 | [],_,i,j,x,h,_=>by simp at h
 | y::l,hn,i,j,x,hi,hj=>by
   simp only [nodup,Bool.and_eq_true,Bool.not_eq_true'] at hn
   have hmem:∀ (k:Nat),l[k]?=some y→False:=fun k hk=>by
    have:=List.mem_of_getElem? hk
    simp [List.contains_eq_mem,this] at hn
   cases i with
   | zero =>
     cases j with
     | zero=>rfl
     | succ j=>simp at hi hj;subst hi;exact(hmem j hj).elim
   | succ i =>
     cases j with
     | zero=>simp at hi hj;subst hj;exact(hmem i hi).elim
     | succ j=>simp at hi hj;rw [AjT hn.2 i j x hi hj]
theorem AdO (hS:RS A κ S w):∀ (args:List AVal) (k:Nat) (as:List AVal) (blks:List ABlock) (ids l:List Nat),(Adm args k).run S=some ((as,blks,ids),l)→(∃vs,RepV κ (Avoid A κ) w args vs) →
 blks.length=ids.length∧(∀ (i:Nat) b,ids[i]?=some b→∃ blk x,blks[i]?=some blk∧S[b]?=some (some blk)∧κ[b]?=some (some (some x))∧Abn blk.rows=true∧blk.exOf = .no) ∧
 ∀ (κ0:Kap) (T0:Nat→Prop),(∀ (i:Nat) b,ids[i]?=some b→κ0[k+i]?=κ[b]?)→(∀ c,¬ Avoid A κ c→¬ T0 c)→∀ vs:List Value,RepV κ (Avoid A κ) w args vs→RepV κ0 T0 w as vs
 | [],k,as,blks,ids,l,h,_=>by
   simp [Adm,RM.run] at h
   obtain⟨⟨rfl,rfl,rfl⟩,-⟩:=h
   refine⟨rfl,fun i b h=>by simp at h,fun κ0 T0 _ _ vs hv=>?_⟩
   have:=List.eq_nil_of_length_eq_zero (by simpa using hv.1.symm);subst this;exact .nil
 | v::args,k,as,blks,ids,l,h,hvs=>by
   have hvt:∃ vs,RepV κ (Avoid A κ) w args vs:=by
    obtain⟨vs,hv⟩:=hvs
    cases vs with
    | nil=>have:=hv.1;simp at this
    | cons u us=>exact⟨us,hv.tail⟩
   simp only [Adm] at h
   split at h
   ·rename_i hn
    obtain⟨⟨as',blks',ids'⟩,i1,i2,h1,h2,-⟩:=run_bind h
    simp only [RM.run,Option.some.injEq,Prod.mk.injEq] at h2
    obtain⟨⟨rfl,rfl,rfl⟩,-⟩:=h2
    obtain⟨g1,g2,g3⟩:=AdO hS args k as' blks' ids' _ h1 hvt
    refine⟨g1,g2,fun κ0 T0 hκ hT vs hv=>?_⟩
    cases vs with
    | nil=>have:=hv.1;simp at this
    | cons u us=>exact .cons (Aea hT _ _ hn hv.head) (g3 κ0 T0 hκ hT us hv.tail)
   ·rename_i hnn
    clear hnn
    cases v<;>simp only at h
    case view b off len full =>
     obtain⟨blk,l2,hb,h,-⟩:=AaR h
     simp only at h
     split at h
     ·rename_i hrn
      obtain⟨⟨as',blks',ids'⟩,i1,i2,h1,h2,-⟩:=run_bind h
      simp only [RM.run,Option.some.injEq,Prod.mk.injEq] at h2
      obtain⟨⟨rfl,rfl,rfl⟩,-⟩:=h2
      obtain⟨g1,g2,g3⟩:=AdO hS args (k+1) as' blks' ids' _ h1 hvt
      obtain⟨x,hx,hbk⟩:=hS.live b blk hb
      have hex:blk.exOf = .no:=by
       obtain⟨vs,hv⟩:=hvs
       cases vs with
       | nil=>have:=hv.1;simp at this
       | cons u us =>
         obtain⟨ev,cb,of,cap,q1,q2,q3⟩:=hv.head
         rw [hx] at q1;cases q1
         obtain⟨_,_,_,_,el,n,q4,_⟩:=q3 x rfl
         exact hbk.no_shape q4
      refine⟨by simp [g1],fun i b' hb'=>?_,fun κ0 T0 hκ hT vs hv=>?_⟩
      ·cases i with
       | zero=>simp at hb';subst hb';exact⟨blk,x,rfl,hb,hx,hrn,hex⟩
       | succ i=>exact g2 i b' (by simpa using hb')
      ·cases vs with
       | nil=>have:=hv.1;simp at this
       | cons u us =>
         refine .cons ?_ (g3 κ0 T0 (fun i b' hb'=>by have:=hκ (i+1) b' (by simpa using hb');rwa [show k+(i+1)=k+1+i by omega] at this) hT us hv.tail)
         obtain⟨ev,cb,of,cap,q1,q2,q3⟩:=hv.head
         have h0:=hκ 0 b rfl
         rw [Nat.add_zero] at h0
         exact⟨ev,cb,of,cap,by rw [h0];exact q1,q2,q3⟩
     ·exact(Aaf h).elim
    all_goals exact(Aaf h).elim
end
end Go.Eng
namespace Go.Eng
open Go
variable [Inhabited GlobT]
section
variable {P:Program} {A:Nat→Prop} {κ κ':Kap} {S:Store} {w w':World} {T T':Nat→Prop} {slot:Nat} {e:Eff} {rds:List Nat}
theorem keep_back (hS:RS A κ S w) {ids:List Nat} {κ0 κ1:Kap} {S1:Store} (hκ0:∀ (i:Nat),κ0[i]?=(ids[i]?).bind fun b=>κ[b]?) (hid:∀ (i:Nat) b,ids[i]?=some b→∃ x,κ[b]?=some (some (some x)))
 (k1:Ext κ0 w κ1 w') (k2:RS (fun c=>Avoid A κ c∧¬ Trk κ0 c) κ1 S1 w') :
 Ext κ w (Ada κ ids) w'∧RS A (Ada κ ids) (Abg S (ids.map fun b=>(b,none))) w'∧(∀ c,Avoid A (Ada κ ids) c→Avoid A κ c∧¬ Trk κ0 c):=by
 have h0:∀ c,Trk κ0 c→Trk κ c:=by
  rintro c ⟨i,x,hi,hx⟩
  rw [hκ0] at hi
  cases hb:ids[i]? with
  | none=>simp [hb] at hi
  | some b=>simp [hb] at hi;exact⟨b,x,hi,hx⟩
 have hmem:∀ b,b∈ids→∀ x,κ[b]?=some (some (some x))→Trk κ0 x.cb:=by
  intro b hb x hx
  obtain⟨i,hi⟩:=List.mem_iff_getElem?.1 hb
  exact⟨i,x,by rw [hκ0,hi];simpa using hx,rfl⟩
 have hget:∀ (j:Nat) x,(Ada κ ids)[j]?=some (some (some x))→j ∉ ids∧κ[j]?=some (some (some x)):=by
  intro j x hj
  rw [AcT] at hj
  split at hj
  ·cases hj
  ·rename_i hn
   exact⟨fun h=>hn ⟨h,(List.getElem?_eq_some_iff.1 hj).1⟩,hj⟩
 have hun:∀ (j:Nat) x,j ∉ ids→κ[j]?=some (some (some x))→¬ Trk κ0 x.cb:=by
  rintro j x hj hx ⟨i,y,hi,hy⟩
  rw [hκ0] at hi
  cases hb:ids[i]? with
  | none=>simp [hb] at hi
  | some b =>
    simp [hb] at hi
    have:=hS.inj _ _ _ _ hi hx hy
    subst this
    exact hj (List.mem_of_getElem? hb)
 have hextk:Ext κ w (Ada κ ids) w':=by
  refine⟨fun b ev hb=>?_,k1.size,fun c hn hl=>⟨?_,(k1.keep c (fun h=>hn (h0 c h)) hl).2⟩,k1.shape,k1.env⟩
  ·rw [AcT]
   split
   ·exact⟨none,rfl,.inl rfl⟩
   ·exact⟨ev,hb,.inr rfl⟩
  ·rintro⟨j,x,hj,hx⟩
   exact hn ⟨j,x,(hget j x hj).2,hx⟩
 refine⟨hextk,⟨by rw [AkZ,Aen,hS.len],?_,?_,?_,?_,hS.gl.mono hextk⟩,?_⟩
 ·intro b hb
  rw [AbY] at hb
  rw [AcT,hS.len]
  split at hb
  ·rename_i h;rw [if_pos h];exact .inr rfl
  ·rename_i h;rw [if_neg h];exact hS.dead b hb
 ·intro b blk hb
  rw [AbY] at hb
  split at hb
  ·cases hb
  ·rename_i h
   obtain⟨x,hx,hok⟩:=hS.live b blk hb
   have hl:b<S.length:=(List.getElem?_eq_some_iff.1 hb).1
   have hni:b ∉ ids:=fun hm=>h ⟨hm,hl⟩
   refine⟨x,by rw [AcT,hS.len,if_neg h];exact hx,hok.mono hextk (k1.keep _ (hun b x hni hx) (hS.lt hx)).2⟩
 ·intro b b' x x' hb hb' he
  exact hS.inj _ _ _ _ (hget _ _ hb).2 (hget _ _ hb').2 he
 ·intro c hc
  refine⟨Nat.lt_of_lt_of_le (hS.av c hc).1 k1.size,?_⟩
  rintro⟨j,x,hj,hx⟩
  exact(hS.av c hc).2 ⟨j,x,(hget j x hj).2,hx⟩
 ·rintro c (hc | ⟨j,x,hj,rfl⟩)
  ·exact⟨.inl hc,fun h=>(hS.av c hc).2 (h0 c h)⟩
  ·obtain⟨h1,h2⟩:=hget j x hj
   exact⟨.inr ⟨j,x,h2,rfl⟩,hun j x h1 h2⟩
theorem rs_import (hS:RS A κ S w) (hs:κ[slot]?=some none) {x:KB} {blk:ABlock} (hlt:x.cb<w.heap.size) (hna:¬ Avoid A κ x.cb)
 (hsz:x.sz=blk.sz) (hrn:x.rn=blk.rows.length) (hex:blk.exOf = .no) (hcells:∃ cells el lo hi,w.heap[x.cb]?=some (.cells cells el (lo,hi))∧(∀ i,i<cells.size+(if blk.sz=1 then 0 else 1)→¬ (lo≤i∧i<hi))∧x.sh+blk.rows.length*blk.sz≤cells.size)
 (hrep:Abz (κ.set slot (some (some x))) (Avoid A (κ.set slot (some (some x)))) w blk.rows blk.sz (fun n=>w.cell? ⟨x.cb,x.sh+n,none⟩))
 (hty:TyOk blk.tyOf x.sh (w.shape? x.cb) (blk.rows.length*blk.sz)) (hgl:GOk (Avoid A (κ.set slot (some (some x)))) w)
 (hpres:∀ (b:Nat) blk',S[b]?=some (some blk')→∀ y,κ[b]?=some (some (some y))→AeS κ (Avoid A κ) w y blk'→AeS (κ.set slot (some (some x))) (Avoid A (κ.set slot (some (some x)))) w y blk') :
 RS A (κ.set slot (some (some x))) (S.set slot (some blk)) w:=by
 have hsl:slot<κ.length:=(List.getElem?_eq_some_iff.1 hs).1
 refine⟨by simp [hS.len],?_,?_,?_,?_,hgl⟩
 ·intro j hj
  rw [Aag] at hj
  split at hj
  ·cases hj
  ·rename_i hn
   rw [Aag,if_neg (by rw [hS.len];exact hn)]
   exact hS.dead j hj
 ·intro j blk' hj
  rw [Aag] at hj
  split at hj
  ·rename_i h;obtain⟨rfl,_⟩:=h;cases hj
   exact⟨x,by rw [Aag,if_pos ⟨rfl,hsl⟩],hsz,hrn,fun _=>hcells,hrep,hty,by rw [hex];trivial,fun h=>absurd hex h⟩
  ·rename_i hn
   obtain⟨y,hy,hok⟩:=hS.live j blk' hj
   exact⟨y,by rw [Aag,if_neg (by rw [hS.len];exact hn)];exact hy,hpres j blk' hj y hy hok⟩
 ·intro b b' y y' hb hb' he
  rw [Aag] at hb hb'
  split at hb<;>split at hb'
  ·rename_i h1 h2;exact h1.1.symm.trans h2.1
  ·cases hb;exact absurd (.inr ⟨b',y',hb',he.symm⟩) hna
  ·cases hb';exact absurd (.inr ⟨b,y,hb,he⟩) hna
  ·exact hS.inj _ _ _ _ hb hb' he
 ·intro c hc
  refine⟨(hS.av c hc).1,?_⟩
  rintro⟨j,y,hj,rfl⟩
  rw [Aag] at hj
  split at hj
  ·cases hj;exact hna (.inl hc)
  ·exact(hS.av _ hc).2 ⟨j,y,hj,rfl⟩
def CRes (A:Nat→Prop) (κ:Kap) (S:Store) (w:World) (slot:Nat) (e:Eff) (v:Value) (w':World):Prop :=
 ∃ κ',Ext κ w κ' w'∧RS A κ' (effS slot e S) w'∧Rep κ' (Avoid A κ') w' e.val v∧∀ (j:Nat),j≠slot→κ[j]?=some none→κ'[j]?=some none
theorem AhL {AP:AaB} (hA:AOk P AP) {rec:Rec} (hrec:AeF P rec) {f:FuncId} {x:AVal} {v:Value} (hS:RS A κ S w) (h:Aeg AP rec f x=true) (hx:x = .nils∨x = .enil) (hv:Rep κ (Avoid A κ) w x v) :
 Does P f #[v] w fun u w'=>CRes A κ S w slot ⟨.lim [],none,[]⟩ u w':=by
 unfold Aeg at h
 have hv':RepV [] (Avoid (Avoid A κ) []) w [x] [v] := .cons (by rcases hx with rfl | rfl<;>exact hv) .nil
 split at h
 ·rename_i S1 hc
  refine(Acn hA hrec hc (Afo (A:=Avoid A κ) (fun c hc=>hS.avoid_lt c hc) hS.gl) hv').mono ?_
  rintro u w' ⟨κ1,⟨k1,_⟩,k2,k3⟩
  obtain⟨g1,g2⟩:=AhQ hS k1
  have k3:u = .slice none 0 0:=k3
  exact⟨κ,g1,g2,⟨none,0,0,k3,rfl,rfl,fun _=>rfl,fun h=>absurd rfl h⟩,fun _ _ h=>h⟩
 ·rename_i S1 hc
  refine(Acn hA hrec hc (Afo (A:=Avoid A κ) (fun c hc=>hS.avoid_lt c hc) hS.gl) hv').mono ?_
  rintro u w' ⟨κ1,⟨k1,_⟩,k2,p,n,c,k3,k4,k5,k6,_⟩
  obtain⟨g1,g2⟩:=AhQ hS k1
  exact⟨κ,g1,g2,⟨p,n,c,k3,k4,k5,k6,fun h=>absurd rfl h⟩,fun _ _ h=>h⟩
 ·cases h
theorem semKeep_sound {AP:AaB} (hA:AOk P AP) {rec:Rec} (hrec:AeF P rec) {f:FuncId} {all:List AVal} {vs:List Value} (hS:RS A κ S w) (hs:κ[slot]?=some none)
 (h:(AhO AP rec slot f all).run S=some (e,rds)) (hv:RepV κ (Avoid A κ) w all vs):Does P f vs.toArray w fun v w'=>CRes A κ S w slot e v w':=by
 unfold AhO at h
 split at h
 ·rename_i hsp
  simp only [Bool.and_eq_true] at hsp
  split at h
  ·rename_i hg
   simp only [Bool.and_eq_true] at hg
   simp only [RM.run,Option.some.injEq,Prod.mk.injEq] at h
   obtain⟨rfl,-⟩:=h
   match all,vs,hsp.2,hv with
   | [x],[v],hx,hv =>
     have hx1:=hv.head
     have hcase:Rep κ (Avoid A κ) w .nils v∨Rep κ (Avoid A κ) w .enil v:=by
      have:∃ p c,v = .slice p 0 c∧(p=none→c=0):=by
       cases x<;>simp only [isSplitArg,isEmptyS,Bool.false_eq_true] at hx
       case imm rows =>
        cases rows with
        | nil=>obtain⟨p,n,c,h1,h2,h3,h4,_⟩:=hx1;exact⟨p,c,by rw [h1,h2];rfl,h4⟩
        | cons r rs=>simp at hx
       case lim rows =>
        cases rows with
        | nil=>obtain⟨p,n,c,h1,h2,h3,h4,_⟩:=hx1;exact⟨p,c,by rw [h1,h2];rfl,h4⟩
        | cons r rs=>simp at hx
      obtain⟨p,c,rfl,hpc⟩:=this
      cases p with
      | none=>rw [hpc rfl];exact .inl rfl
      | some ad=>exact .inr ⟨ad,c,rfl⟩
     rcases hcase with hc | hc
     ·exact AhL hA hrec hS hg.1 (.inl rfl) hc
     ·exact AhL hA hrec hS hg.2 (.inr rfl) hc
   | [x],[],_,hv=>have:=hv.1;simp at this
   | [x],_::_::_,_,hv=>have:=hv.1;simp at this
   | [],_,hx,_=>simp [isSplitArg] at hx
   | _::_::_,_,hx,_=>simp [isSplitArg] at hx
  ·exact(Aaf h).elim
 ·obtain⟨⟨as,blks,ids⟩,i1,i2,h1,h2,-⟩:=run_bind h
  simp only at h2
  clear h
  split at h2
  ·rename_i hnd
   split at h2
   ·rename_i v0 S1 hc
    obtain⟨g1,g2,g3⟩:=AdO hS all 0 as blks ids _ h1 ⟨_,hv⟩
    let κ0:Kap:=(List.range ids.length).map fun i=>((ids[i]?).bind fun b=>κ[b]?).getD none
    have hid:∀ (i:Nat) b,ids[i]?=some b→∃ x,κ[b]?=some (some (some x)):=fun i b hb=>by
     obtain⟨_,x,_,_,hx,_⟩:=g2 i b hb;exact⟨x,hx⟩
    have hκ0:∀ (i:Nat),κ0[i]?=(ids[i]?).bind fun b=>κ[b]?:=by
     intro i
     simp only [κ0,List.getElem?_map]
     rcases Nat.lt_or_ge i ids.length with hl | hl
     ·rw [List.getElem?_range hl]
      have hi:ids[i]?=some ids[i]:=by simp [hl]
      obtain⟨x,hx⟩:=hid i _ hi
      simp only [Option.map_some,hi,Option.bind_some,hx,Option.getD_some]
     ·rw [List.getElem?_eq_none (by simp;exact hl),List.getElem?_eq_none hl];rfl
    have h0:∀ c,Trk κ0 c→Trk κ c:=by
     rintro c ⟨i,x,hi,hx⟩
     rw [hκ0] at hi
     cases hb:ids[i]? with
     | none=>simp [hb] at hi
     | some b=>simp [hb] at hi;exact⟨b,x,hi,hx⟩
    have hav:∀ c,¬ Avoid A κ c→¬ Avoid (fun c=>Avoid A κ c∧¬ Trk κ0 c) κ0 c:=by
     rintro c hc (h | h)
     ·exact hc h.1
     ·exact hc (.inr (h0 c h))
    have hlen0:κ0.length=ids.length:=by simp [κ0]
    have hS0:RS (fun c=>Avoid A κ c∧¬ Trk κ0 c) κ0 (blks.map some) w:=by
     refine⟨by simp [hlen0,g1],?_,?_,?_,fun c hc=>⟨hS.avoid_lt c hc.1,hc.2⟩,hS.gl.weak fun c hc=>Classical.byContradiction fun h=>hav c h hc⟩
     ·intro i hi
      rw [List.getElem?_map] at hi
      cases hb:blks[i]?<;>simp [hb] at hi
     ·intro i blk hi
      rw [List.getElem?_map] at hi
      cases hb:blks[i]? with
      | none=>simp [hb] at hi
      | some blk' =>
        simp [hb] at hi;subst hi
        have hl:i<ids.length:=by rw [←g1];exact(List.getElem?_eq_some_iff.1 hb).1
        have hi:ids[i]?=some ids[i]:=by simp [hl]
        obtain⟨blk2,x,q1,q2,q3,q4,q5⟩:=g2 i _ hi
        rw [hb] at q1;cases q1
        obtain⟨x',hx',hok⟩:=hS.live _ _ q2
        rw [q3] at hx';cases hx'
        refine⟨x,by rw [hκ0,hi];simpa using q3,hok.sz,hok.rn,hok.cells',Aci hav _ _ _ q4 hok.rep,hok.ty,by rw [q5];trivial,hok.exr⟩
     ·intro i j x y hi hj he
      rw [hκ0] at hi hj
      cases hbi:ids[i]? with
      | none=>simp [hbi] at hi
      | some bi =>
        cases hbj:ids[j]? with
        | none=>simp [hbj] at hj
        | some bj =>
          simp [hbi] at hi;simp [hbj] at hj
          have:=hS.inj _ _ _ _ hi hj he
          subst this
          exact AjT hnd i j _ hbi hbj
    have hargs:=g3 κ0 (Avoid (fun c=>Avoid A κ c∧¬ Trk κ0 c) κ0) (fun i b hb=>by rw [Nat.zero_add,hκ0,hb];rfl) hav vs hv
    refine(Acn hA hrec hc hS0 hargs).mono ?_
    rintro u w' ⟨κ1,⟨k1,_⟩,k2,k3⟩
    obtain⟨b1,b2,b3⟩:=keep_back (S:=S) hS hκ0 hid k1 k2
    have hkfree:∀ (j:Nat),κ[j]?=some none→(Ada κ ids)[j]?=some none:=by
     intro j hj
     rw [AcT,if_neg]
     ·exact hj
     ·rintro⟨hm,_⟩
      obtain⟨i,hi⟩:=List.mem_iff_getElem?.1 hm
      obtain⟨x,hx⟩:=hid i j hi
      rw [hj] at hx;cases hx
    unfold AjV at h2
    split at h2
    ·rename_i j off len full
     split at h2
     ·rename_i blk hj
      split at h2
      ·rename_i hrn
       simp only [RM.run,Option.some.injEq,Prod.mk.injEq] at h2
       obtain⟨rfl,-⟩:=h2
       obtain⟨x1,hx1,hok1⟩:=k2.live j blk hj
       have hex1:blk.exOf = .no:=by
        obtain⟨ev9,cb9,of9,cap9,z1,z2,z3⟩:=k3
        rw [hx1] at z1;cases z1
        obtain⟨_,_,_,_,el9,n9,z4,_⟩:=z3 x1 rfl
        exact hok1.no_shape z4
       have hs':=hkfree slot hs
       have hna:¬ Avoid A (Ada κ ids) x1.cb:=fun hc=>(k2.av _ (b3 _ hc)).2 ⟨j,x1,hx1,rfl⟩
       have htrk:∀ c,Avoid A ((Ada κ ids).set slot (some (some x1))) c→Avoid (fun c=>Avoid A κ c∧¬ Trk κ0 c) κ1 c:=by
        rintro c (hc | ⟨i,y,hi,rfl⟩)
        ·exact .inl (b3 c (.inl hc))
        ·rw [Aag] at hi
         split at hi
         ·cases hi;exact .inr ⟨j,x1,hx1,rfl⟩
         ·exact .inl (b3 _ (.inr ⟨i,y,hi,rfl⟩))
       have hklen:slot<(Ada κ ids).length:=(List.getElem?_eq_some_iff.1 hs').1
       have hext2:Ext κ w ((Ada κ ids).set slot (some (some x1))) w':=by
        refine⟨fun b ev hb=>?_,b1.size,fun c hn hl=>⟨?_,(b1.keep c hn hl).2⟩,b1.shape,b1.env⟩
        ·obtain⟨ev',e1,e2⟩:=b1.kle b ev hb
         refine⟨ev',?_,e2⟩
         rw [Aag,if_neg]
         ·exact e1
         ·rintro⟨rfl,_⟩;rw [hs'] at e1;cases e1
        ·rintro⟨i,y,hi,hy⟩
         rw [Aag] at hi
         split at hi
         ·cases hi
          exact(k1.keep c (fun h=>hn (h0 c h)) hl).1 ⟨j,x1,hx1,hy⟩
         ·exact(b1.keep c hn hl).1 ⟨i,y,hi,hy⟩
       have hsub:∀ c,¬ Avoid (fun c=>Avoid A κ c∧¬ Trk κ0 c) κ1 c→¬ Avoid A ((Ada κ ids).set slot (some (some x1))) c:=fun c hc h=>hc (htrk c h)
       refine⟨(Ada κ ids).set slot (some (some x1)),hext2,?_,?_,fun i hi hn=>?_⟩
       ·refine rs_import b2 hs' (k2.lt hx1) hna hok1.sz hok1.rn hex1 (hok1.cells hex1) (Aci hsub _ _ _ hrn hok1.rep) hok1.ty (k2.gl.weak htrk) ?_
        intro b blk' hb y hy _
        rw [AbY] at hb
        split at hb
        ·cases hb
        ·rename_i hnn
         obtain⟨y',hy',hok⟩:=hS.live b blk' hb
         rw [AcT] at hy
         split at hy
         ·cases hy
         ·rw [hy'] at hy;cases hy
          have hl:b<S.length:=(List.getElem?_eq_some_iff.1 hb).1
          have hni:b ∉ ids:=fun hm=>hnn ⟨hm,hl⟩
          have hnt:¬ Trk κ0 y.cb:=by
           rintro⟨i,z,hi,hz⟩
           rw [hκ0] at hi
           cases hbi:ids[i]? with
           | none=>simp [hbi] at hi
           | some bi =>
             simp [hbi] at hi
             have:=hS.inj _ _ _ _ hi hy' hz
             subst this
             exact hni (List.mem_of_getElem? hbi)
          exact hok.mono hext2 (k1.keep _ hnt (hS.lt hy')).2
       ·obtain⟨ev,cb,of,cap,q1,rfl,q3⟩:=k3
        rw [hx1] at q1;cases q1
        obtain⟨p1,p2,p3,p4,p5⟩:=q3 x1 rfl
        exact⟨some x1,cb,of,cap,AiQ hs',rfl,fun y hy=>by cases hy;exact⟨p1,p2,p3,p4,p5⟩⟩
       ·rw [Aag,if_neg (fun h=>hi h.1.symm)]
        exact hkfree i hn
      ·exact(Aaf h2).elim
     ·exact(Aaf h2).elim
    ·rename_i hr0
     split at h2
     ·rename_i hrn
      simp only [RM.run,Option.some.injEq,Prod.mk.injEq] at h2
      obtain⟨rfl,-⟩:=h2
      exact⟨Ada κ ids,b1,b2,Aea (fun c hc h=>hc (.inl (b3 c h))) _ _ hrn k3,fun j _ hj=>hkfree j hj⟩
     ·exact(Aaf h2).elim
   ·exact(Aaf h2).elim
  ·exact(Aaf h2).elim
end
end Go.Eng
namespace Go.Eng
open Go
variable [Inhabited GlobT]
section
variable {P:Program} {A:Nat→Prop} {κ κ':Kap} {S:Store} {w w':World} {slot:Nat} {e:Eff} {rds:List Nat} {N:Nat} {fr:List AVal} {a:Act} {o:Oper}
variable {AP:AaB} (hA:AOk P AP) {rec:Rec} (hrec:AeF P rec)
include hA hrec
theorem semCall_sound {fv:AVal} {args:List AVal} {fV:Value} {vs:List Value} (hS:RS A κ S w) (hs:∀ f first cap,fv = .fn (.func f) first cap→((AP.prim f).isSome || AP.keep f)=true→κ[slot]?=some none) (h:(AeH AP rec slot fv args).run S=some (e,rds))
 (hf:Rep κ (Avoid A κ) w fv fV) (hv:RepV κ (Avoid A κ) w args vs) :
 ∃ f first cap,fV = .func (.func f) first cap∧Does P f (first++vs.toArray++cap) w fun v w'=>CRes A κ S w slot e v w':=by
 unfold AeH at h
 split at h
 ·rename_i f first cap
  obtain⟨x,y,rfl,hx1,hy1,hx2,hy2⟩:=hf
  obtain⟨xs,g1,g2⟩:=AcQ _ _ hx2
  obtain⟨ys,g3,g4⟩:=AcQ _ _ hy2
  have hxs:RepV κ (Avoid A κ) w first x.toList:=by
   refine⟨by simp [hx1],fun i b v hb hv=>?_⟩
   obtain⟨u,q1,q2⟩:=g1.get hb
   have:=g2 i u q1
   simp at hv
   rw [this] at hv;cases hv;exact q2
  have hys:RepV κ (Avoid A κ) w cap y.toList:=by
   refine⟨by simp [hy1],fun i b v hb hv=>?_⟩
   obtain⟨u,q1,q2⟩:=g3.get hb
   have:=g4 i u q1
   simp at hv
   rw [this] at hv;cases hv;exact q2
  have hall:=(hxs.append hv).append hys
  have harr:x++vs.toArray++y=(x.toList++vs++y.toList).toArray:=by apply Array.ext';simp
  refine⟨f,x,y,rfl,?_⟩
  rw [harr]
  split at h
  ·rename_i p hp
   exact hA.prim f p hp A κ S w slot _ _ e rds h hS (hs f first cap rfl (by rw [hp];rfl)) hall
  ·split at h
   ·rename_i hke
    exact semKeep_sound hA hrec hS (hs f first cap rfl (by rw [hke,Bool.or_true])) h hall
   ·obtain⟨as,i1,i2,h1,h2,-⟩:=run_bind h
    split at h2
    ·rename_i r hr
     split at h2
     ·rename_i hn
      simp only [RM.run,Option.some.injEq,Prod.mk.injEq] at h2
      obtain⟨rfl,-⟩:=h2
      have hn3:(norefL (first++args++cap)=true∨r.flat=true)∨Alc AP rec f as=true:=by
       rw [Bool.or_eq_true,Bool.or_eq_true] at hn
       exact hn
      clear hn
      unfold callP at hr
      split at hr
      ·rename_i g hg
       have hn:norefL (first++args++cap)=true∨r.flat=true:=hn3.resolve_right (by simp [Alc,hg])
       refine(hA.pure f g hg _ _ hr A κ S w _ _ _ hS h1 hn hall).mono ?_
       rintro v w' ⟨k1,k2,k3⟩
       exact⟨κ,k1,k2,k3,fun _ _ h=>h⟩
      ·rename_i hpn
       rcases hn3 with hn | hn
       ·refine(callI_sound hA hrec hS h1 hr hn hall).mono ?_
        rintro v w' ⟨k1,k2,k3⟩
        exact⟨κ,k1,k2,k3,fun _ _ h=>h⟩
       ·refine(callI_fresh hA hrec hS h1 hr hpn hn hall).mono ?_
        rintro v w' ⟨k1,k2,k3⟩
        exact⟨κ,k1,k2,k3,fun _ _ h=>h⟩
     ·exact(Aaf h2).elim
    ·exact(Aaf h2).elim
 ·exact(Aaf h).elim
theorem semX_wp {ao:AOp} (hc:compileOp P o.op=some ao) (hS:RS A κ S w) (hF:RF A κ w N fr a) (hs:allocsA AP ao=true→κ[slot]?=some none) (h:(semX AP rec slot (opd fr) ao).run S=some (e,rds))
 {K:Act→World→Prop} {Q:Exit→Act→World→Prop}
 (hk:∀ v w' κ',Ext κ w κ' w'→RS A κ' (effS slot e S) w'→Rep κ' (Avoid A κ') w' e.val v→(∀ (j:Nat),j≠slot→κ[j]?=some none→κ'[j]?=some none)→K (a.put o.dst v) w'):o.wp P a w K Q:=by
 by_cases hcall:isCall ao=true
 ·cases ao<;>simp only [isCall,Bool.false_eq_true] at hcall
  rename_i f args
  have hoc:∃ fo as ts,o.op = .call ⟨.value fo,as,ts⟩∧opdA fo=some f∧opdsA as.toList=some args:=by
   cases ho:o.op<;>rw [ho] at hc<;>simp only [compileOp] at hc
   case call c =>
    obtain⟨callee,as,ts⟩:=c
    split at hc
    ·rename_i fo as' hcal has
     simp only at hcal has
     subst hcal
     cases hfo:opdA fo with
     | none=>simp [hfo] at hc
     | some f'=>simp [hfo] at hc;obtain⟨rfl,rfl⟩:=hc;exact⟨fo,as,ts,rfl,hfo,has⟩
    ·rename_i b as' hcal has
     exfalso
     unfold AbE at hc
     repeat' (split at hc)
     all_goals first | cases hc | (simp only [Option.map_eq_some_iff] at hc;obtain⟨_,_,hc⟩:=hc;cases hc)
    ·cases hc
   case makeMap t r=>cases r<;>cases hc
   case next i str =>
    cases hi:opdA i with
    | none=>simp [hi] at hc
    | some i'=>cases str<;>simp [hi] at hc
   all_goals
    first
    | cases hc
    | (exfalso
       repeat' (split at hc)
       all_goals first | cases hc | (simp only [Option.map_eq_some_iff] at hc;obtain⟨_,_,hc⟩:=hc;cases hc))
  obtain⟨fo,as,ts,ho,hfo,has⟩:=hoc
  obtain⟨f',first,cap,h1,h2⟩:=semCall_sound hA hrec hS (fun g first cap hg hpk=>hs (by
   simp only [allocsA]
   split
   ·rfl
   ·split
    ·simp only [opd] at hg
     cases hg
     split
     ·rfl
     ·rename_i hp
      rw [hp] at hpk
      simpa using hpk
    ·rfl)) h (hF.opd hfo) (hF.opds has)
  refine call_wp ho h1 ?_
  have:(as.toList.map a.eval).toArray=as.map a.eval:=by apply Array.ext';simp
  rw [this] at h2
  exact h2.mono fun v w' ⟨κ',k1,k2,k3,k4⟩=>hk v w' κ' k1 k2 k3 k4
 ·have hcall:isCall ao=false:=by simpa using hcall
  have h':(sem slot (opd fr) ao).run S=some (e,rds):=by
   cases ao<;>first | exact h | simp [isCall] at hcall
  have hal:allocsA AP ao=allocs ao:=by cases ao<;>first | rfl | simp [isCall] at hcall
  exact res_wp (op_sound hS hF hc hcall (fun h=>hs (hal▸h)) h') hk
end
end Go.Eng
namespace Go.Eng
open Go
variable [Inhabited GlobT]
section
variable {P:Program} {A:Nat→Prop} {κ κ':Kap} {S:Store} {w w':World} {slot:Nat} {N:Nat} {fr:List AVal} {a:Act} {o:Oper} {ops:Array Oper} {un:List Nat} {i:Aaq}
theorem AcJ (h:AaY P ops un o=some i):i.dst=o.dst∧i.op=(compileOp P o.op).getD .bad∧i.un=un ∧
 match o.guard with
 | none=>i.guard=none
 | some (j,want)=>∃ t,(ops[j]?).bind (·.dst)=some t∧i.guard=some (t,want):=by
 unfold AaY at h
 simp only at h
 split at h
 ·rename_i hg;cases h;exact⟨rfl,rfl,rfl,by rw [hg]⟩
 ·rename_i j want hg
  split at h
  ·rename_i t ht;cases h;exact⟨rfl,rfl,rfl,by rw [hg];exact⟨t,ht,rfl⟩⟩
  ·cases h
theorem AhN (hF:RF A κ w N fr a) (h:AaY P ops un o=some i) {b:Bool} (hw:wanted fr i.guard=some b):Region.wanted o (yielded ops a.tmps)=b:=by
 obtain⟨-,-,-,hg⟩:=AcJ h
 unfold Region.wanted
 cases hog:o.guard with
 | none=>rw [hog] at hg;simp only at hg;rw [hg] at hw;simp [wanted] at hw;simp [hw]
 | some jw =>
   obtain⟨j,want⟩:=jw
   rw [hog] at hg
   obtain⟨t,ht,hgi⟩:=hg
   rw [hgi] at hw
   simp only [wanted] at hw
   have htm:=hF.tmp t
   have hev:a.eval (.tmp t)=a.tmps[t]?.getD undef:=by simp [Act.eval]
   split at hw
   ·rename_i c hc
    cases hw
    rw [hc] at htm
    have h1:a.tmps[t]?.getD undef = .bool c:=by rw [←hev];exact htm
    have h2:a.tmps[t]?=some (.bool c):=by
     cases h3:a.tmps[t]? with
     | none=>rw [h3] at h1;simp [undef] at h1
     | some v=>rw [h3] at h1;simp at h1;rw [h1]
    simp only [yielded,ht,Option.bind_some,h2]
    simp
   ·rename_i hc
    cases hw
    rw [hc] at htm
    obtain⟨xs,h1,h2,_⟩:=htm
    have h1:a.tmps[t]?.getD undef = .tuple xs:=by rw [←hev];exact h1
    simp only [yielded,ht,Option.bind_some]
    cases h3:a.tmps[t]? with
    | none=>simp
    | some v=>rw [h3] at h1;simp at h1;subst h1;simp
   ·cases hw
variable {AP:AaB} (hA:AOk P AP) {rec:Rec} (hrec:AeF P rec)
include hA hrec
theorem share_wp {Q:Exit→Act→World→Prop} {K:Act→World→Prop} {idx:Nat} {st:St} {f:Nat} {as:List AVal} {r:AVal} {S1:Store} (ho:ops[idx]?=some o) (hc:AaY P ops un o=some i) (hS:RS A κ st.S w) (hF:RF A κ w N st.fr a)
 (hN:(i.dst.all fun d=>d<N)=true) (hw:wanted st.fr i.guard=some true) (hfv:fvOf st.fr i.op=some (f,as)) (hr:callS AP rec f as st.S=some (r,S1))
 (hk:∀ a' w' κ',ExtF κ w κ' w'→RS A κ' S1 w'→RF A κ' w' N (putO st.fr i.dst r) a'→K a' w'):wpOp P ops Q idx K a w:=by
 obtain⟨hd,hop,-,-⟩:=AcJ hc
 rw [hd] at hN
 unfold wpOp
 simp only [ho]
 rw [AhN hF hc hw]
 simp only [if_true]
 rw [hop] at hfv
 cases hco:compileOp P o.op with
 | none=>rw [hco] at hfv;simp [fvOf] at hfv
 | some ao =>
   rw [hco] at hfv
   simp only [Option.getD_some] at hfv
   cases ao<;>simp only [fvOf,reduceCtorEq] at hfv
   rename_i g gargs
   split at hfv
   ·rename_i f0 first cap hg
    cases hfv
    have hoc:∃ fo as ts,o.op = .call ⟨.value fo,as,ts⟩∧opdA fo=some g∧opdsA as.toList=some gargs:=by
     cases hoo:o.op<;>rw [hoo] at hco<;>simp only [compileOp] at hco
     case call c =>
      obtain⟨callee,as,ts⟩:=c
      split at hco
      ·rename_i fo as' hcal has
       simp only at hcal has
       subst hcal
       cases hfo:opdA fo with
       | none=>simp [hfo] at hco
       | some f'=>simp [hfo] at hco;obtain⟨rfl,rfl⟩:=hco;exact⟨fo,as,ts,rfl,hfo,has⟩
      ·rename_i b as' hcal has
       exfalso
       unfold AbE at hco
       repeat' (split at hco)
       all_goals first | cases hco | (simp only [Option.map_eq_some_iff] at hco;obtain⟨_,_,hco⟩:=hco;cases hco)
      ·cases hco
     case makeMap t r=>cases r<;>cases hco
     case next i str =>
      cases hi:opdA i with
      | none=>simp [hi] at hco
      | some i'=>cases str<;>simp [hi] at hco
     all_goals
      first
      | cases hco
      | (exfalso
         repeat' (split at hco)
         all_goals first | cases hco | (simp only [Option.map_eq_some_iff] at hco;obtain⟨_,_,hco⟩:=hco;cases hco))
    obtain⟨fo,as2,ts,hoo,hfo,has⟩:=hoc
    have hfr:=hF.opd hfo
    rw [hg] at hfr
    obtain⟨x,y,hx0,hx1,hy1,hx2,hy2⟩:=hfr
    obtain⟨xs,g1,g2⟩:=AcQ _ _ hx2
    obtain⟨ys,g3,g4⟩:=AcQ _ _ hy2
    have hxs:RepV κ (Avoid A κ) w first x.toList:=by
     refine⟨by simp [hx1],fun i b v hb hv=>?_⟩
     obtain⟨u,q1,q2⟩:=g1.get hb
     have:=g2 i u q1
     simp at hv
     rw [this] at hv;cases hv;exact q2
    have hys:RepV κ (Avoid A κ) w cap y.toList:=by
     refine⟨by simp [hy1],fun i b v hb hv=>?_⟩
     obtain⟨u,q1,q2⟩:=g3.get hb
     have:=g4 i u q1
     simp at hv
     rw [this] at hv;cases hv;exact q2
    have hall:=(hxs.append (hF.opds has)).append hys
    have harr:x++as2.map a.eval++y=(x.toList++as2.toList.map a.eval++y.toList).toArray:=by apply Array.ext';simp
    refine .inl (call_wp hoo hx0 ?_)
    rw [harr]
    refine(Acn hA hrec hr hS hall).mono ?_
    rintro v w' ⟨κ',k1,k2,k3⟩
    refine hk _ _ κ' k1 k2 ?_
    rw [hd]
    exact(hF.mono k1.ext).put hN k3
   ·cases hfv
omit hA hrec in
theorem isShare_fv {AP:AaB} {fr:List AVal} {op:AOp} {f:Nat} {as:List AVal} (h:isShare AP fr op=some (f,as)):fvOf fr op=some (f,as):=by
 unfold isShare at h
 split at h
 ·cases h
 ·rename_i f' as' hfv
  split at h
  ·cases h
  ·split at h
   ·cases h
   ·split at h
    ·cases h;exact hfv
    ·cases h
omit hA hrec in
theorem shares_fv {AP:AaB} {st:St} {op:AOp} {f:Nat} {as:List AVal} (h:AhG AP st op=some (some (f,as))):fvOf st.fr op=some (f,as):=by
 unfold AhG at h
 split at h
 ·cases h
 ·rename_i f' as' hfv
  split at h
  ·cases h
  ·split at h
   ·cases h
   ·split at h
    ·cases h;exact hfv
    ·split at h
     ·cases h
     ·cases h
     ·cases h;exact hfv
theorem dstep_wp {Q:Exit→Act→World→Prop} {K:Act→World→Prop} {idx:Nat} {st st':St} {fp:FP} (ho:ops[idx]?=some o) (hc:AaY P ops un o=some i) (hS:RS A κ st.S w) (hF:RF A κ w N st.fr a)
 (hs:allocsA AP i.op=true→κ[slot]?=some none) (h:Acu AP rec N slot i st=some (st',fp))
 (hk:∀ a' w' κ',Ext κ w κ' w'→RS A κ' st'.S w'→RF A κ' w' N st'.fr a'→(∀ (j:Nat),j≠slot→κ[j]?=some none→κ'[j]?=some none)→K a' w'):wpOp P ops Q idx K a w:=by
 obtain⟨hd,hop,-,-⟩:=AcJ hc
 unfold Acu at h
 split at h
 ·rename_i hN
  split at h
  ·cases h
  ·rename_i hw
   cases h
   unfold wpOp
   simp only [ho]
   rw [AhN hF hc hw]
   simp only [Bool.false_eq_true,if_false]
   rw [hd] at *
   exact hk _ _ κ (.refl _ _) hS (hF.put hN AbW) (fun _ _ h=>h)
  ·rename_i hw
   split at h
   ·rename_i f as hsh
    split at h
    ·rename_i r S1 hr
     cases h
     exact share_wp hA hrec ho hc hS hF hN hw (isShare_fv hsh) hr fun a' w' κ' k1 k2 k3=>hk a' w' κ' k1.ext k2 k3 fun j _ hj=>k1.free j hj
    ·cases h
   ·split at h
    ·cases h
    ·rename_i e rds hr
     cases h
     rw [hd] at hN
     unfold wpOp
     simp only [ho]
     rw [AhN hF hc hw]
     simp only [if_true]
     rw [hop] at hr hs
     cases hco:compileOp P o.op with
     | none=>rw [hco] at hr;simp [semX,sem] at hr;exact(Aaf hr).elim
     | some ao =>
       rw [hco] at hr hs
       refine .inl (semX_wp hA hrec hco hS hF hs hr ?_)
       intro v w' κ' k1 k2 k3 k4
       refine hk _ _ κ' k1 k2 ?_ k4
       rw [hd]
       exact(hF.mono k1).put hN k3
 ·cases h
omit hA hrec in
theorem RF.note {f:Nat} {args:List AVal} {d:Deferred} (hF:RF A κ w N fr a) (ht:d.target = .fn (.func f) #[]) (hv:RepV κ (Avoid A κ) w args d.args.toList):RF A κ w N (Eng.put fr N (AVal.note f args (get fr N))) {a with defers:=d::a.defers}:=by
 refine⟨?_,hF.size,fun t=>?_,hF.gl⟩
 ·rw [Afv,if_pos rfl]
  exact⟨d,a.defers,rfl,ht,hv,hF.defers⟩
 ·rw [Afv]
  split
  ·trivial
  ·have:=hF.tmp t
   exact this
theorem noted_wp {Q:Exit→Act→World→Prop} {K:Act→World→Prop} {idx:Nat} {st st':St} (ho:ops[idx]?=some o) (hc:AaY P ops un o=some i) (hS:RS A κ st.S w) (hF:RF A κ w N st.fr a) (h:noted N i st=some st')
 (hk:∀ a' w' κ',ExtF κ w κ' w'→RS A κ' st'.S w'→RF A κ' w' N st'.fr a'→K a' w'):wpOp P ops Q idx K a w:=by
 obtain⟨hd,hop,-,hg⟩:=AcJ hc
 unfold noted at h
 split at h
 ·rename_i f args hi1 hi2 hi3
  cases h
  rw [hi1] at hop
  have hgo:o.guard=none:=by
   cases hgd:o.guard with
   | none=>rfl
   | some jw =>
     obtain⟨j,wt⟩:=jw
     rw [hgd] at hg
     obtain⟨t,_,h2⟩:=hg
     rw [hi3] at h2;cases h2
  have hdo:o.dst=none:=by rw [←hd];exact hi2
  have hod:∃ c,o.op = .defer c∧c.callee = .value (.func f)∧opdsA c.args.toList=some args:=by
   cases hco:compileOp P o.op with
   | none=>rw [hco] at hop;cases hop
   | some ao =>
     rw [hco] at hop
     simp only [Option.getD_some] at hop
     subst hop
     cases hoo:o.op<;>rw [hoo] at hco<;>simp only [compileOp] at hco
     case defer c =>
      split at hco
      ·rename_i f' as' h1 h2
       cases hco
       exact⟨c,rfl,h1,h2⟩
      ·cases hco
     case makeMap t r=>cases r<;>cases hco
     case next i str =>
      cases hi:opdA i with
      | none=>simp [hi] at hco
      | some i'=>cases str<;>simp [hi] at hco
     all_goals
      first
      | cases hco
      | (exfalso
         unfold AbE at hco
         repeat' (split at hco)
         all_goals first | cases hco | (simp only [Option.map_eq_some_iff] at hco;obtain⟨_,_,hco⟩:=hco;cases hco))
      | (exfalso
         repeat' (split at hco)
         all_goals first | cases hco | (simp only [Option.map_eq_some_iff] at hco;obtain⟨_,_,hco⟩:=hco;cases hco))
  obtain⟨c,hoc,hcal,has⟩:=hod
  unfold wpOp
  simp only [ho]
  have hwt:Region.wanted o (yielded ops a.tmps)=true:=by simp [Region.wanted,hgo]
  rw [hwt]
  simp only [if_true]
  refine .inl ?_
  unfold Oper.wp
  have hrun:(execOp a.eval o).run P w = .ok (.defer {target := .fn (.func f) #[],args:=c.args.map a.eval}) w:=by
   simp [execOp,hoc,resolve,hcal,Act.eval,Deferred.ofValue]
  rw [hrun,Oper.upon_defer,hdo]
  refine hk _ _ κ (.refl _ _) hS ?_
  refine hF.note rfl ?_
  have:=hF.opds has
  simpa using this
 ·cases h
theorem step1_wp {Q:Exit→Act→World→Prop} {K:Act→World→Prop} {idx:Nat} {st st':St} (ho:ops[idx]?=some o) (hc:AaY P ops un o=some i) (hS:RS A κ st.S w) (hF:RF A κ w N st.fr a)
 (h:step1 AP rec N i st=some st') (hk:∀ a' w' κ',ExtF κ w κ' w'→RS A κ' st'.S w'→RF A κ' w' N st'.fr a'→K a' w'):wpOp P ops Q idx K a w:=by
 unfold step1 at h
 split at h
 ·cases h
 ·rename_i f as hsh
  unfold sharesG at hsh
  split at hsh
  ·rename_i hw
   split at h
   ·rename_i hN
    split at h
    ·rename_i r S1 hr
     cases h
     exact share_wp hA hrec ho hc hS hF hN hw (shares_fv hsh) hr hk
    ·cases h
   ·cases h
  ·cases hsh
 ·split at h
  ·rename_i st1 hn
   cases h
   exact noted_wp hA hrec ho hc hS hF hn hk
  ·split at h
   ·rename_i st1 fp hd
    cases h
    have hlen:=hS.len
    split at hd
    ·rename_i hal
     obtain⟨r1,r2⟩:=AjO hS 1
     refine dstep_wp (κ:=κ++[none]) (st:=⟨st.fr,st.S++[none]⟩) (slot:=st.S.length) hA hrec ho hc r2 (hF.mono r1) (fun _=>by rw [←hlen];simp) hd ?_
     intro a' w' κ' k1 k2 k3 k4
     refine hk a' w' κ' ⟨r1.trans k1,fun j hj=>k4 j ?_ (Ahw _ _ _ _ hj)⟩ k2 k3
     have:=(List.getElem?_eq_some_iff.1 hj).1
     omega
    ·rename_i hal
     refine dstep_wp hA hrec ho hc hS hF (fun h=>absurd h hal) hd ?_
     intro a' w' κ' k1 k2 k3 k4
     refine hk a' w' κ' ⟨k1,fun j hj=>k4 j ?_ hj⟩ k2 k3
     have:=(List.getElem?_eq_some_iff.1 hj).1
     omega
   ·cases h
theorem Aha {Q:Exit→Act→World→Prop}:∀ (l:List Oper) (k:Nat) (is:List Aaq) (st st':St) (κ:Kap) (a:Act) (w:World),(∀ (j:Nat),l[j]?=ops[k+j]?)→compileSeq P ops l=some is→RS A κ st.S w→RF A κ w N st.fr a →
 stepL AP rec N is st=some st'→(∀ a' w' κ',ExtF κ w κ' w'→RS A κ' st'.S w'→RF A κ' w' N st'.fr a'→Q .normal a' w')→wpOps P ops Q (List.range' k l.length) a w
 | [],k,is,st,st',κ,a,w,hl,hc,hS,hF,h,hq=>by
   simp [compileSeq] at hc;subst hc
   simp [stepL] at h;subst h
   simpa [wpOps] using hq a w κ (.refl _ _) hS hF
 | o::l,k,is,st,st',κ,a,w,hl,hc,hS,hF,h,hq=>by
   simp only [compileSeq] at hc
   split at hc
   ·rename_i i is' h1 h2
    cases hc
    simp only [stepL] at h
    split at h
    ·rename_i st1 hst
     rw [List.length_cons,List.range'_succ,wpOps_cons]
     refine step1_wp hA hrec (by have:=hl 0;simpa using this.symm) h1 hS hF hst ?_
     intro a' w' κ' k1 k2 k3
     exact Aha l (k+1) is' st1 st' κ' a' w' (fun j=>by have:=hl (j+1);simpa [Nat.add_assoc,Nat.add_comm 1 j] using this) h2 k2 k3 h
      (fun a'' w'' κ'' q1 q2 q3=>hq a'' w'' κ'' (k1.trans q1) q2 q3)
    ·cases h
   ·cases hc
end
end Go.Eng
namespace Go.Eng
open Go
variable [Inhabited GlobT]
theorem AeZ {fr fr':List AVal} {x:AOpd} (h:∀ t∈opdT x,get fr t=get fr' t):opd fr x=opd fr' x:=by
 cases x with
 | t n=>exact h n (by simp [opdT])
 | c v=>rfl
theorem opdo_congr {fr fr':List AVal} {x:Option AOpd} (h:∀ t∈opdTo x,get fr t=get fr' t):x.map (opd fr)=x.map (opd fr'):=by
 cases x with
 | none=>rfl
 | some x=>simp only [Option.map_some];rw [AeZ h]
theorem AdX {fr fr':List AVal} {xs:List AOpd} (h:∀ t∈xs.flatMap opdT,get fr t=get fr' t):xs.map (opd fr)=xs.map (opd fr') :=
 List.map_congr_left fun x hx=>AeZ fun t ht=>h t (List.mem_flatMap.2 ⟨x,hx,ht⟩)
theorem opdP_congr {fr fr':List AVal} {β:Type} {xs:List (β × AOpd)} (h:∀ t∈xs.flatMap (fun p=>opdT p.2),get fr t=get fr' t):(xs.map fun p=>(p.1,opd fr p.2))=xs.map fun p=>(p.1,opd fr' p.2) :=
 List.map_congr_left fun x hx=>by rw [AeZ fun t ht=>h t (List.mem_flatMap.2 ⟨x,hx,ht⟩)]
theorem semX_congr {AP:AaB} {rec:Rec} {slot:Nat} {fr fr':List AVal} {op:AOp} (h:∀ t∈AaN op,get fr t=get fr' t):semX AP rec slot (opd fr) op=semX AP rec slot (opd fr') op:=by
 have one:∀ {x:AOpd},(∀ t∈opdT x,t∈AaN op)→opd fr x=opd fr' x:=fun hx=>AeZ fun t ht=>h t (hx t ht)
 have oneo:∀ {x:Option AOpd},(∀ t∈opdTo x,t∈AaN op)→x.map (opd fr)=x.map (opd fr'):=fun hx=>opdo_congr fun t ht=>h t (hx t ht)
 cases op with
 | bad=>rfl
 | alloc row=>rfl
 | allocT t row=>rfl
 | lenArr n=>rfl
 | move x=>simp only [semX,sem,one (x:=x) (by simp [AaN])]
 | cast t n x=>simp only [semX,sem,one (x:=x) (by simp [AaN])]
 | sliceData x=>simp only [semX,sem,one (x:=x) (by simp [AaN])]
 | toArr n sz x=>simp only [semX,sem,one (x:=x) (by simp [AaN])]
 | eqPtr n x y=>simp only [semX,sem,one (x:=x) (by simp+contextual [AaN]),one (x:=y) (by simp+contextual [AaN])]
 | unsafeStr t x y=>simp only [semX,sem,one (x:=x) (by simp+contextual [AaN]),one (x:=y) (by simp+contextual [AaN])]
 | appendE t n b x y=>simp only [semX,sem,one (x:=x) (by simp+contextual [AaN]),one (x:=y) (by simp+contextual [AaN])]
 | box n x=>simp only [semX,sem,one (x:=x) (by simp [AaN])]
 | load g n x=>simp only [semX,sem,one (x:=x) (by simp [AaN])]
 | nilCheck x=>simp only [semX,sem,one (x:=x) (by simp [AaN])]
 | isNil k n x=>simp only [semX,sem,one (x:=x) (by simp [AaN])]
 | un op x=>simp only [semX,sem,one (x:=x) (by simp [AaN])]
 | conv c x=>cases c<;>simp only [semX,sem,one (x:=x) (by simp [AaN])]
 | faddr n x=>simp only [semX,sem,one (x:=x) (by simp [AaN])]
 | field g n off x=>simp only [semX,sem,one (x:=x) (by simp [AaN])]
 | extract x n=>simp only [semX,sem,one (x:=x) (by simp [AaN])]
 | len b x=>cases b<;>simp only [semX,sem,one (x:=x) (by simp [AaN])]
 | clear z n x=>simp only [semX,sem,one (x:=x) (by simp [AaN])]
 | pick c x y=>simp only [semX,sem,one (x:=c) (by simp+contextual [AaN]),one (x:=x) (by simp+contextual [AaN]),one (x:=y) (by simp+contextual [AaN])]
 | build z ps=>simp only [semX,sem];rw [opdP_congr h]
 | buildSlice z n len ps=>simp only [semX,sem];rw [opdP_congr h]
 | store n x y=>simp only [semX,sem,one (x:=x) (by simp+contextual [AaN]),one (x:=y) (by simp+contextual [AaN])]
 | bin op x y=>simp only [semX,sem,one (x:=x) (by simp+contextual [AaN]),one (x:=y) (by simp+contextual [AaN])]
 | eqB n x y=>simp only [semX,sem,one (x:=x) (by simp+contextual [AaN]),one (x:=y) (by simp+contextual [AaN])]
 | eqAgg n ls x y=>simp only [semX,sem,one (x:=x) (by simp+contextual [AaN]),one (x:=y) (by simp+contextual [AaN])]
 | makeSlice z n b x y=>simp only [semX,sem,one (x:=x) (by simp+contextual [AaN]),one (x:=y) (by simp+contextual [AaN])]
 | iaddr n x y=>simp only [semX,sem,one (x:=x) (by simp+contextual [AaN]),one (x:=y) (by simp+contextual [AaN])]
 | iaddrArr m n x y=>simp only [semX,sem,one (x:=x) (by simp+contextual [AaN]),one (x:=y) (by simp+contextual [AaN])]
 | idxStr x y=>simp only [semX,sem,one (x:=x) (by simp+contextual [AaN]),one (x:=y) (by simp+contextual [AaN])]
 | idxArr g m n x y=>simp only [semX,sem,one (x:=x) (by simp+contextual [AaN]),one (x:=y) (by simp+contextual [AaN])]
 | append n b x y=>simp only [semX,sem,one (x:=x) (by simp+contextual [AaN]),one (x:=y) (by simp+contextual [AaN])]
 | copy n x y=>simp only [semX,sem,one (x:=x) (by simp+contextual [AaN]),one (x:=y) (by simp+contextual [AaN])]
 | makeFunc f xs ys =>
   simp only [AaN,List.mem_append] at h
   simp only [semX,sem];rw [AdX fun t ht=>h t (.inl ht),AdX fun t ht=>h t (.inr ht)]
 | sliceStr x lo hi=>simp only [semX,sem,one (x:=x) (by simp+contextual [AaN]),oneo (x:=lo) (by simp+contextual [AaN]),oneo (x:=hi) (by simp+contextual [AaN])]
 | slice n x lo hi mx=>simp only [semX,sem,one (x:=x) (by simp+contextual [AaN]),oneo (x:=lo) (by simp+contextual [AaN]),oneo (x:=hi) (by simp+contextual [AaN]),oneo (x:=mx) (by simp+contextual [AaN])]
 | sliceArr m n x lo hi mx=>simp only [semX,sem,one (x:=x) (by simp+contextual [AaN]),oneo (x:=lo) (by simp+contextual [AaN]),oneo (x:=hi) (by simp+contextual [AaN]),oneo (x:=mx) (by simp+contextual [AaN])]
 | call f args =>
   simp only [AaN,List.mem_append] at h
   simp only [semX];rw [AeZ fun t ht=>h t (.inl ht),AdX fun t ht=>h t (.inr ht)]
 | makeMap=>rfl
 | deferC f args=>rfl
 | lookup ok kd z x y=>simp only [semX,sem,one (x:=x) (by simp+contextual [AaN]),one (x:=y) (by simp+contextual [AaN])]
 | mapUpdate kd x y z=>simp only [semX,sem,one (x:=x) (by simp+contextual [AaN]),one (x:=y) (by simp+contextual [AaN]),one (x:=z) (by simp+contextual [AaN])]
 | mapEntry kd z x y=>simp only [semX,sem,one (x:=x) (by simp+contextual [AaN]),one (x:=y) (by simp+contextual [AaN])]
 | entryStore x y z=>simp only [semX,sem,one (x:=x) (by simp+contextual [AaN]),one (x:=y) (by simp+contextual [AaN]),one (x:=z) (by simp+contextual [AaN])]
 | mapDelete kd x y=>simp only [semX,sem,one (x:=x) (by simp+contextual [AaN]),one (x:=y) (by simp+contextual [AaN])]
 | mapClear x=>simp only [semX,sem,one (x:=x) (by simp [AaN])]
 | mapLen x=>simp only [semX,sem,one (x:=x) (by simp [AaN])]
 | range x=>simp only [semX,sem,one (x:=x) (by simp [AaN])]
 | next x=>simp only [semX,sem,one (x:=x) (by simp [AaN])]
 | entry x=>simp only [semX,sem,one (x:=x) (by simp [AaN])]
 | rangeS x=>simp only [semX,sem,one (x:=x) (by simp [AaN])]
 | nextS x=>simp only [semX,sem,one (x:=x) (by simp [AaN])]
 | maxI xs=>simp only [semX,sem];rw [AdX h]
 | minI xs=>simp only [semX,sem];rw [AdX h]
theorem Amq {α:Type}:∀ {m:RM α} {S S':Store} {a:α} {ids:List Nat},m.run S=some (a,ids)→(∀ b∈ids,S'[b]?=S[b]?)→m.run S'=some (a,ids)
 | .ok a,S,S',_,_,h,_=>h
 | .fail,S,S',_,_,h,_=>by simp [RM.run] at h
 | .rd b k,S,S',a,ids,h,hb=>by
   obtain⟨blk,l,h1,h2,h3⟩:=AaR h
   simp only at h3 h2
   subst h3
   simp only [RM.run,hb b (by simp),h1,Amq h2 fun b' hb'=>hb b' (by simp [hb'])]
def effIds (slot:Nat) (e:Eff):List Nat:=e.wr.map (·.1)++(if e.new.isSome then [slot] else [])
theorem Aeo:∀ (wr:List (Nat × Option ABlock)) (S:Store),(Abg S wr).length=S.length
 | [],_=>rfl
 | (b,x)::r,S=>by rw [Abg,Aeo r];simp
theorem AiG:∀ (wr:List (Nat × Option ABlock)) (S:Store) (j:Nat),j ∉ wr.map (·.1)→(Abg S wr)[j]?=S[j]?
 | [],_,_,_=>rfl
 | (b,x)::r,S,j,h=>by
   simp only [List.map_cons,List.mem_cons,not_or] at h
   rw [Abg,AiG r _ j h.2,Aag,if_neg (fun hh=>h.1 hh.1.symm)]
theorem AkL:∀ (wr:List (Nat × Option ABlock)) (S S':Store) (j:Nat),S.length=S'.length→(j∈wr.map (·.1)∨S[j]?=S'[j]?)→(Abg S wr)[j]?=(Abg S' wr)[j]?
 | [],S,S',j,_,h=>h.resolve_left (by simp)
 | (b,x)::r,S,S',j,hl,h=>by
   simp only [Abg]
   refine AkL r _ _ j (by simp [hl]) ?_
   by_cases hj:b=j
   ·refine .inr ?_
    by_cases h2:b<S'.length
    ·rw [Aag,Aag,hl,if_pos ⟨hj,h2⟩,if_pos ⟨hj,h2⟩]
    ·rw [List.getElem?_eq_none (by rw [List.length_set];omega),List.getElem?_eq_none (by rw [List.length_set];omega)]
   ·rcases h with h | h
    ·simp only [List.map_cons,List.mem_cons] at h
     rcases h with h | h
     ·exact absurd h.symm hj
     ·exact .inl h
    ·exact .inr (by rw [Aag,Aag,if_neg (fun hh=>hj hh.1),if_neg (fun hh=>hj hh.1)];exact h)
theorem effS_len (slot:Nat) (e:Eff) (S:Store):(effS slot e S).length=S.length:=by
 unfold effS;split<;>simp [Aeo]
theorem Ahs {slot:Nat} {e:Eff} {S:Store} {j:Nat} (h:j ∉ effIds slot e):(effS slot e S)[j]?=S[j]?:=by
 unfold effIds at h
 unfold effS
 cases hn:e.new with
 | none=>rw [hn] at h;simp at h;exact AiG _ _ _ (by simpa using h)
 | some blk =>
   rw [hn] at h
   simp only [Option.isSome_some,if_true,List.mem_append,List.mem_singleton,not_or] at h
   rw [Aag,if_neg (fun hh=>h.2 hh.1.symm)]
   exact AiG _ _ _ h.1
theorem effS_in {slot:Nat} {e:Eff} {S S':Store} {j:Nat} (hl:S.length=S'.length) (h:j∈effIds slot e∨S[j]?=S'[j]?):(effS slot e S)[j]?=(effS slot e S')[j]?:=by
 unfold effIds at h
 unfold effS
 cases hn:e.new with
 | none=>rw [hn] at h;exact AkL _ _ _ _ hl (h.imp (fun h=>by simpa using h) id)
 | some blk =>
   rw [hn] at h
   simp only [Option.isSome_some,if_true,List.mem_append,List.mem_singleton] at h
   rw [Aag,Aag,Aeo,Aeo,hl]
   by_cases hj:slot=j
   ·by_cases h2:slot<S'.length
    ·simp [hj];rw [←hj];simp [h2]
    ·rw [if_neg (fun hh=>h2 hh.2),if_neg (fun hh=>h2 hh.2)]
     rw [List.getElem?_eq_none,List.getElem?_eq_none]<;>rw [Aeo]<;>omega
   ·rw [if_neg (fun hh=>hj hh.1),if_neg (fun hh=>hj hh.1)]
    refine AkL _ _ _ _ hl ?_
    rcases h with(h | h) | h
    ·exact .inl h
    ·exact absurd h.symm hj
    ·exact .inr h
theorem effS_comm {s1 s2:Nat} {e1 e2:Eff} {S:Store} (h:∀ j,j∈effIds s1 e1→j ∉ effIds s2 e2):effS s2 e2 (effS s1 e1 S)=effS s1 e1 (effS s2 e2 S):=by
 apply List.ext_getElem?
 intro j
 by_cases h1:j∈effIds s1 e1
 ·rw [Ahs (h j h1)]
  exact effS_in (by rw [effS_len]) (.inl h1)
 ·rw [Ahs (S:=effS s2 e2 S) h1]
  exact effS_in (by rw [effS_len]) (.inr (Ahs h1))
theorem put_comm:∀ (fr:List AVal) (a b:Nat) (u v:AVal),a≠b→put (put fr a u) b v=put (put fr b v) a u
 | [],0,0,u,v,h=>absurd rfl h
 | [],0,b+1,u,v,_=>rfl
 | [],a+1,0,u,v,_=>rfl
 | [],a+1,b+1,u,v,h=>by simp only [put];rw [put_comm [] a b u v (by omega)]
 | x::xs,0,0,u,v,h=>absurd rfl h
 | x::xs,0,b+1,u,v,_=>rfl
 | x::xs,a+1,0,u,v,_=>rfl
 | x::xs,a+1,b+1,u,v,h=>by simp only [put];rw [put_comm xs a b u v (by omega)]
theorem apart_spec {x y:Aaq} (h:apartA x y=true):(∀ d,x.dst=some d→d ∉ uses y)∧(∀ d,y.dst=some d→d ∉ uses x)∧(∀ d d',x.dst=some d→y.dst=some d'→d≠d'):=by
 unfold apartA at h
 simp only [Bool.and_eq_true] at h
 obtain⟨⟨h1,h2⟩,h3⟩:=h
 refine⟨fun d hd=>?_,fun d hd=>?_,fun d d' hd hd'=>?_⟩
 ·rw [hd] at h1;simpa [dstOff,List.contains_eq_mem] using h1
 ·rw [hd] at h2;simpa [dstOff,List.contains_eq_mem] using h2
 ·rw [hd,hd'] at h3;simpa using h3
theorem putO_get {fr:List AVal} {d:Option Nat} {v:AVal} {t:Nat} (h:∀ d',d=some d'→d'≠t):get (putO fr d v) t=get fr t:=by
 cases d with
 | none=>rfl
 | some d=>simp only [putO,Afv];rw [if_neg (fun e=>h d rfl e.symm)]
theorem Aje {fr:List AVal} {a b:Option Nat} {u v:AVal} (h:∀ x y,a=some x→b=some y→x≠y):putO (putO fr a u) b v=putO (putO fr b v) a u:=by
 cases a with
 | none=>rfl
 | some a =>
   cases b with
   | none=>rfl
   | some b=>exact put_comm fr a b u v (h a b rfl rfl)
end Go.Eng
namespace Go.Eng
open Go
variable [Inhabited GlobT]
mutual
theorem AjJ:∀ v:AVal,abeq v v=true
 | .undef | .nilp | .nils | .enil | .nilfn | .niliface | .nilmap=>rfl
 | .bool _ | .str _ | .ptr .. | .tnil _ | .view .. | .aview .. | .mapv _=>by simp [abeq]
 | .int _ _ | .flt _ _ | .nanv _=>by simp [abeq]
 | .rptr cs=>by rw [abeq];exact AcM cs
 | .imm r=>by rw [abeq];exact AfH r
 | .lim r=>by rw [abeq];exact AfH r
 | .fn f a b=>by simp [abeq,AcM a,AcM b]
 | .iface t v=>by simp [abeq,AjJ v]
 | .agg cs=>by rw [abeq];exact AcM cs
 | .tuple cs=>by rw [abeq];exact AcM cs
 | .note f a r=>by simp [abeq,AcM a,AjJ r]
theorem AcM:∀ l:List AVal,abeqL l l=true
 | []=>rfl
 | v::l=>by rw [abeqL,AjJ v,AcM l];rfl
theorem AfH:∀ l:List (List AVal),abeqLL l l=true
 | []=>rfl
 | v::l=>by rw [abeqLL,AcM v,AfH l];rfl
end
theorem abeqE_refl:∀ l:List (Nat × AVal × AVal),abeqE l l=true
 | []=>rfl
 | v::l=>by simp [abeqE,AjJ,abeqE_refl l]
theorem exbeq_refl:∀ x:Extra,exbeq x x=true
 | .no=>rfl
 | .map c es=>by simp [exbeq,abeqE_refl]
 | .iter none _ _ _=>by simp [exbeq]
 | .iter (some _) _ _ _=>by simp [exbeq]
 | .siter _ _=>by simp [exbeq]
theorem blkbeq_refl:∀ x:Option ABlock,blkbeq x x=true
 | none=>rfl
 | some a=>by simp [blkbeq,exbeq_refl,AfH]
mutual
theorem abeq_eq:∀ {a b:AVal},abeq a b=true→a=b
 | .undef,b,h=>by cases b<;>simp [abeq] at h ⊢
 | .nilp,b,h=>by cases b<;>simp [abeq] at h ⊢
 | .nils,b,h=>by cases b<;>simp [abeq] at h ⊢
 | .enil,b,h=>by cases b<;>simp [abeq] at h ⊢
 | .nilfn,b,h=>by cases b<;>simp [abeq] at h ⊢
 | .niliface,b,h=>by cases b<;>simp [abeq] at h ⊢
 | .nilmap,b,h=>by cases b<;>simp [abeq] at h ⊢
 | .bool _,b,h=>by cases b<;>simp [abeq] at h ⊢<;>exact h
 | .str _,b,h=>by cases b<;>simp [abeq] at h ⊢<;>exact h
 | .ptr ..,b,h=>by cases b<;>simp [abeq,and_assoc] at h ⊢<;>exact h
 | .tnil _,b,h=>by cases b<;>simp [abeq] at h ⊢<;>exact h
 | .view ..,b,h=>by cases b<;>simp [abeq,and_assoc] at h ⊢<;>exact h
 | .aview ..,b,h=>by cases b<;>simp [abeq,and_assoc] at h ⊢<;>exact h
 | .mapv _,b,h=>by cases b<;>simp [abeq] at h ⊢<;>exact h
 | .int _ _,b,h=>by cases b<;>simp [abeq] at h ⊢<;>exact h
 | .flt _ _,b,h=>by cases b<;>simp [abeq] at h ⊢<;>exact h
 | .nanv _,b,h=>by cases b<;>simp [abeq] at h ⊢<;>exact h
 | .rptr cs,b,h=>by cases b<;>simp [abeq] at h ⊢;exact AdV h
 | .imm cs,b,h=>by cases b<;>simp [abeq] at h ⊢;exact AjK h
 | .lim cs,b,h=>by cases b<;>simp [abeq] at h ⊢;exact AjK h
 | .agg cs,b,h=>by cases b<;>simp [abeq] at h ⊢;exact AdV h
 | .tuple cs,b,h=>by cases b<;>simp [abeq] at h ⊢;exact AdV h
 | .iface t v,b,h=>by cases b<;>simp [abeq] at h ⊢;exact⟨h.1,abeq_eq h.2⟩
 | .fn f x y,b,h=>by cases b<;>simp [abeq,and_assoc] at h ⊢;exact⟨h.1,AdV h.2.1,AdV h.2.2⟩
 | .note f x r,b,h=>by cases b<;>simp [abeq,and_assoc] at h ⊢;exact⟨h.1,AdV h.2.1,abeq_eq h.2.2⟩
theorem AdV:∀ {a b:List AVal},abeqL a b=true→a=b
 | [],b,h=>by cases b<;>simp [abeqL] at h ⊢
 | x::a,b,h=>by
   cases b with
   | nil=>simp [abeqL] at h
   | cons y b =>
     simp only [abeqL,Bool.and_eq_true] at h
     rw [abeq_eq h.1,AdV h.2]
theorem AjK:∀ {a b:List (List AVal)},abeqLL a b=true→a=b
 | [],b,h=>by cases b<;>simp [abeqLL] at h ⊢
 | x::a,b,h=>by
   cases b with
   | nil=>simp [abeqLL] at h
   | cons y b =>
     simp only [abeqLL,Bool.and_eq_true] at h
     rw [AdV h.1,AjK h.2]
end
theorem abeqE_eq:∀ {a b:List (Nat × AVal × AVal)},abeqE a b=true→a=b
 | [],b,h=>by cases b<;>simp [abeqE] at h ⊢
 | (x1,x2,x3)::a,b,h=>by
   cases b with
   | nil=>simp [abeqE] at h
   | cons y b =>
     obtain⟨y1,y2,y3⟩:=y
     simp only [abeqE,Bool.and_eq_true,beq_iff_eq] at h
     obtain⟨⟨⟨rfl,h2⟩,h3⟩,h4⟩:=h
     rw [abeq_eq h2,abeq_eq h3,abeqE_eq h4]
theorem exbeq_eq {a b:Extra} (h:exbeq a b=true):a=b:=by
 unfold exbeq at h
 split at h
 ·rfl
 ·simp only [Bool.and_eq_true,beq_iff_eq] at h;rw [h.1,abeqE_eq h.2]
 ·simp only [Bool.and_eq_true,beq_iff_eq] at h;obtain⟨⟨⟨rfl,rfl⟩,rfl⟩,rfl⟩:=h;rfl
 ·simp only [Bool.and_eq_true,beq_iff_eq] at h;obtain⟨⟨rfl,rfl⟩,rfl⟩:=h;rfl
 ·simp only [Bool.and_eq_true,beq_iff_eq] at h;obtain⟨rfl,rfl⟩:=h;rfl
 ·cases h
theorem ABlock.ext4:∀ {a b:ABlock},a.sz=b.sz→a.rows=b.rows→a.tyOf=b.tyOf→a.exOf=b.exOf→a=b
 | @ABlock.mk s1 r1 ⟨t1⟩ ⟨x1⟩,@ABlock.mk s2 r2 ⟨t2⟩ ⟨x2⟩,h1,h2,h3,h4=>by
   have h1:s1=s2:=h1
   have h2:r1=r2:=h2
   have h3:t1=t2:=h3
   have h4:x1=x2:=h4
   subst h1 h2 h3 h4
   rfl
theorem blkbeq_eq {a b:Option ABlock} (h:blkbeq a b=true):a=b:=by
 unfold blkbeq at h
 split at h
 ·rfl
 ·rename_i a b
  simp only [Bool.and_eq_true,beq_iff_eq] at h
  obtain⟨⟨⟨h1,h2⟩,h3⟩,h4⟩:=h
  rw [ABlock.ext4 h1 (AjK h4) h2 (exbeq_eq h3)]
 ·cases h
section
variable {D:Nat→Prop} {O:Nat→Option (Option ABlock)} {S T S':Store}
theorem Rel.lt (h:Rel D O S T) {b:Nat} (hb:D b):b<S.length:=by
 have:=(h.2 b).1 hb
 exact(List.getElem?_eq_some_iff.1 this.1).1
theorem Rel.live (h:Rel D O S T) {b:Nat} {blk:ABlock} (hb:S[b]?=some (some blk)):¬ D b:=fun hd=>by
 have:=((h.2 b).1 hd).1
 rw [hb] at this;cases this
theorem Rel.get (h:Rel D O S T) {b:Nat} {blk:ABlock} (hb:S[b]?=some (some blk)):T[b]?=some (some blk):=by
 rw [(h.2 b).2 (h.live hb),hb]
theorem AiV {α:Type}:∀ {m:RM α} {S:Store} {a:α} {ids:List Nat},m.run S=some (a,ids)→∀ b∈ids,∃blk,S[b]?=some (some blk)
 | .ok _,S,a,ids,h,b,hb=>by simp only [RM.run,Option.some.injEq,Prod.mk.injEq] at h;obtain⟨_,rfl⟩:=h;simp at hb
 | .fail,S,a,ids,h,b,hb=>by simp [RM.run] at h
 | .rd c k,S,a,ids,h,b,hb=>by
   obtain⟨blk,l,h1,h2,h3⟩:=AaR h
   simp only at h2 h3
   subst h3
   rcases List.mem_cons.1 hb with rfl | hb
   ·exact⟨blk,h1⟩
   ·exact AiV h2 b hb
theorem Rel.run {α:Type} {m:RM α} {a:α} {ids:List Nat} (h:Rel D O S T) (hr:m.run S=some (a,ids)):m.run T=some (a,ids) :=
 Amq hr fun b hb=>by
  obtain⟨blk,h1⟩:=AiV hr b hb
  rw [h1,h.get h1]
theorem Rel.run3 {α:Type}:∀ {m:RM α} {a:Option α},Rel D O S T→m.run3 S=some a→m.run3 T=some a
 | .ok _,a,_,h=>h
 | .fail,a,_,h=>h
 | .rd c k,a,hr,h=>by
   simp only [RM.run3] at h ⊢
   split at h
   ·rename_i blk hb
    rw [hr.get hb]
    exact Rel.run3 hr h
   ·cases h
theorem Amr {α:Type}:∀ {m:RM α} {S:Store} {a:α} {ids:List Nat},m.run S=some (a,ids)→m.run3 S=some (some a)
 | .ok _,S,a,ids,h=>by simp only [RM.run,Option.some.injEq,Prod.mk.injEq] at h;obtain⟨rfl,_⟩:=h;rfl
 | .fail,S,a,ids,h=>by simp [RM.run] at h
 | .rd c k,S,a,ids,h=>by
   obtain⟨blk,l,h1,h2,h3⟩:=AaR h
   simp only [RM.run3,h1]
   exact Amr h2
theorem Rel.app (h:Rel D O S T) (l:Store):Rel D O (S++l) (T++l):=by
 refine⟨by simp [h.1],fun b=>⟨fun hd=>?_,fun hd=>?_⟩⟩
 ·have hl:=h.lt hd
  obtain⟨h1,h2⟩:=(h.2 b).1 hd
  exact⟨by rw [List.getElem?_append_left hl];exact h1,by rw [List.getElem?_append_left (by rw [h.1];exact hl)];exact h2⟩
 ·rcases Nat.lt_or_ge b S.length with hl | hl
  ·rw [List.getElem?_append_left hl,List.getElem?_append_left (by rw [h.1];exact hl)]
   exact(h.2 b).2 hd
  ·rw [List.getElem?_append_right hl,List.getElem?_append_right (by rw [h.1];exact hl),h.1]
theorem Rel.set (h:Rel D O S T) {b:Nat} {x:Option ABlock} (hb:¬ D b):Rel D O (S.set b x) (T.set b x):=by
 refine⟨by simp [h.1],fun c=>⟨fun hd=>?_,fun hd=>?_⟩⟩
 ·have hne:b≠c:=fun e=>hb (e▸hd)
  rw [List.getElem?_set_ne hne,List.getElem?_set_ne hne]
  exact(h.2 c).1 hd
 ·rw [Aag,Aag,h.1]
  split
  ·rfl
  ·exact(h.2 c).2 hd
theorem Rel.wr:∀ (wr:List (Nat × Option ABlock)) {S T:Store},Rel D O S T→(∀ x∈wr,¬ D x.1)→Rel D O (Abg S wr) (Abg T wr)
 | [],_,_,h,_=>h
 | (b,x)::r,_,_,h,hw=>Rel.wr r (h.set (hw (b,x) List.mem_cons_self)) fun y hy=>hw y (List.mem_cons_of_mem _ hy)
theorem Rel.eff (h:Rel D O S T) {slot:Nat} {e:Eff} (hw:∀ x∈e.wr,¬ D x.1) (hs:¬ D slot):Rel D O (effS slot e S) (effS slot e T):=by
 unfold effS
 split
 ·exact(h.wr _ hw).set hs
 ·exact h.wr _ hw
end
section
variable {P:Program} {AP:AaB} (hA:AOk P AP) {D:Nat→Prop} {O:Nat→Option (Option ABlock)} {S T S':Store}
include hA
omit hA in
theorem AeA:∀ (args:List AVal) (k:Nat) (as:List AVal) (blks:List ABlock) (ids l:List Nat),(Adm args k).run S=some ((as,blks,ids),l)→∀ b∈ids,b∈l
 | [],k,as,blks,ids,l,h,b,hb=>by
   simp only [Adm,RM.run,Option.some.injEq,Prod.mk.injEq] at h
   obtain⟨⟨_,_,rfl⟩,_⟩:=h
   simp at hb
 | v::args,k,as,blks,ids,l,h,b,hb=>by
   simp only [Adm] at h
   split at h
   ·obtain⟨⟨as',blks',ids'⟩,i1,i2,h1,h2,h3⟩:=run_bind h
    simp only [RM.run,Option.some.injEq,Prod.mk.injEq] at h2
    obtain⟨⟨rfl,rfl,rfl⟩,rfl⟩:=h2
    simp only at h3
    rw [h3]
    simpa using AeA args k as' blks' ids' _ h1 b hb
   ·cases v<;>simp only at h
    case view b' off len full =>
     obtain⟨blk,l2,hb',h,hl⟩:=AaR h
     simp only at h hl
     split at h
     ·obtain⟨⟨as',blks',ids'⟩,i1,i2,h1,h2,h3⟩:=run_bind h
      simp only [RM.run,Option.some.injEq,Prod.mk.injEq] at h2
      obtain⟨⟨rfl,rfl,rfl⟩,rfl⟩:=h2
      simp only at h3
      rw [hl,h3]
      rcases List.mem_cons.1 hb with rfl | hb
      ·exact List.mem_cons_self
      ·refine List.mem_cons_of_mem _ ?_
       simpa using AeA args (k+1) as' blks' ids' _ h1 b hb
     ·exact(Aaf h).elim
    all_goals exact(Aaf h).elim
omit hA in
theorem keepRes_wr {slot:Nat} {ids:List Nat} {r:AVal} {S0:Store} {e:Eff} {l:List Nat} (h:(AjV slot ids r S0).run S=some (e,l)):e.wr=ids.map fun b=>(b,none):=by
 unfold AjV at h
 split at h
 ·split at h
  ·split at h
   ·simp only [RM.run,Option.some.injEq,Prod.mk.injEq] at h
    obtain⟨rfl,_⟩:=h;rfl
   ·exact(Aaf h).elim
  ·exact(Aaf h).elim
 ·split at h
  ·simp only [RM.run,Option.some.injEq,Prod.mk.injEq] at h
   obtain⟨rfl,_⟩:=h;rfl
  ·exact(Aaf h).elim
theorem semX_wr {rec:Rec} {slot:Nat} {ρ:AOpd→AVal} {op:AOp} {e:Eff} {rds:List Nat} (h:(semX AP rec slot ρ op).run S=some (e,rds)):∀ x∈e.wr,x.1∈rds:=by
 cases op
 case call f args =>
  simp only [semX] at h
  unfold AeH at h
  split at h
  ·rename_i f first cap hf
   split at h
   ·rename_i p hp
    exact hA.wr f p hp _ _ _ _ _ h
   ·split at h
    ·unfold AhO at h
     split at h
     ·split at h
      ·simp only [RM.run,Option.some.injEq,Prod.mk.injEq] at h
       obtain⟨rfl,_⟩:=h
       intro x hx;simp at hx
      ·exact(Aaf h).elim
     ·obtain⟨⟨as,blks,ids⟩,i1,i2,h1,h2,h3⟩:=run_bind h
      simp only at h2 h3
      split at h2
      ·split at h2
       ·have hw:=keepRes_wr h2
        intro x hx
        rw [hw,List.mem_map] at hx
        obtain⟨b,hb,rfl⟩:=hx
        rw [h3]
        exact List.mem_append_left _ (AeA _ _ _ _ _ _ h1 b hb)
       ·exact(Aaf h2).elim
      ·exact(Aaf h2).elim
    ·obtain⟨as,i1,i2,h1,h2,h3⟩:=run_bind h
     split at h2
     ·split at h2
      ·simp only [RM.run,Option.some.injEq,Prod.mk.injEq] at h2
       obtain⟨rfl,_⟩:=h2
       intro x hx;simp at hx
      ·exact(Aaf h2).elim
     ·exact(Aaf h2).elim
  ·exact(Aaf h).elim
 all_goals
  simp only [semX] at h
  intro x hx
  have:=(sem_wr slot ρ _).run h x hx
  simpa using this
omit hA in
theorem ares_frame {fr:List AVal} (h:Rel D O S T) {r:ARes} {v:AVal} (hr:ares ⟨fr,S⟩ r=some v):ares ⟨fr,T⟩ r=some v:=by
 cases r with
 | tmp t=>exact hr
 | cell t g sz =>
   simp only [ares] at hr ⊢
   split at hr
   ·rename_i e ids he
    rw [h.run he]
    exact hr
   ·cases hr
omit hA in
theorem aresL_frame {fr:List AVal} (h:Rel D O S T):∀ {rs:List ARes} {vs:List AVal},AkK ⟨fr,S⟩ rs=some vs→AkK ⟨fr,T⟩ rs=some vs
 | [],_,hr=>hr
 | r::rs,vs,hr=>by
   simp only [AkK] at hr ⊢
   split at hr
   ·rename_i v vs' h1 h2
    rw [ares_frame h h1,aresL_frame h h2]
    exact hr
   ·cases hr
omit hA in
theorem Ald {af:AFunc} {ex:AbV} {fr:List AVal} {r:AVal} (h:Rel D O S T) (hr:finish af (ex,⟨fr,S⟩)=some (r,S')):S'=S∧finish af (ex,⟨fr,T⟩)=some (r,T):=by
 cases ex<;>simp only [finish] at hr ⊢
 case exit=>cases hr
 all_goals
  split at hr
  ·rename_i vs hv
   cases hr
   rw [aresL_frame h hv]
   exact⟨rfl,rfl⟩
  ·cases hr
theorem Agk:∀ (v:AVal) {S T S':Store},Rel D O S T→AcN AP v S=some S'→∃ T',AcN AP v T=some T'∧Rel D O S' T'
 | .note f args rest,S,T,S',h,hr=>by
   simp only [AcN] at hr ⊢
   split at hr
   ·rename_i p hp
    split at hr
    ·rename_i wr rds hw
     rw [h.run hw]
     refine Agk rest (h.wr wr fun x hx=>?_) hr
     obtain⟨blk,hb⟩:=AiV hw _ (hA.dwr f p hp _ _ _ _ hw x hx)
     exact h.live hb
    ·cases hr
   ·cases hr
 | .undef,S,T,S',h,hr | .bool _,S,T,S',h,hr | .int ..,S,T,S',h,hr | .flt ..,S,T,S',h,hr | .nanv _,S,T,S',h,hr | .str _,S,T,S',h,hr | .ptr ..,S,T,S',h,hr | .rptr _,S,T,S',h,hr | .nilp,S,T,S',h,hr | .imm _,S,T,S',h,hr | .lim _,S,T,S',h,hr
 | .nils,S,T,S',h,hr | .enil,S,T,S',h,hr | .tnil _,S,T,S',h,hr | .view ..,S,T,S',h,hr | .aview ..,S,T,S',h,hr | .fn ..,S,T,S',h,hr | .nilfn,S,T,S',h,hr | .iface ..,S,T,S',h,hr | .niliface,S,T,S',h,hr
 | .agg _,S,T,S',h,hr | .tuple _,S,T,S',h,hr | .mapv _,S,T,S',h,hr | .nilmap,S,T,S',h,hr=>by
   simp only [AcN,Option.some.injEq] at hr
   subst hr
   exact⟨T,rfl,h⟩
theorem AfA {rec:Rec} (hfr:Acf rec) {f:Nat} {args:List AVal} {r:AVal} (h:Rel D O S T) (hr:callS AP rec f args S=some (r,S')):∃ T',callS AP rec f args T=some (r,T')∧Rel D O S' T':=by
 unfold callS at hr ⊢
 split at hr
 ·cases hr
 ·rename_i af haf
  split at hr
  ·rename_i hlen
   rw [if_pos hlen]
   split at hr
   ·rename_i res hres
    obtain⟨ex,st'⟩:=res
    obtain⟨T1,h1,h2⟩:=hfr D O _ _ _ _ _ T hres h
    rw [show rec (max af.nargs af.N) af.body ⟨args,T⟩=some (ex,⟨st'.fr,T1⟩) from h1]
    simp only at hr ⊢
    split at hr
    ·obtain⟨rfl,q⟩:=Ald (fr:=st'.fr) (S:=st'.S) h2 hr
     exact⟨T1,q,h2⟩
    ·split at hr
     ·rename_i S2 hS2
      obtain⟨T2,q1,q2⟩:=Agk hA _ h2 hS2
      rw [q1]
      obtain⟨rfl,q⟩:=Ald (fr:=st'.fr) q2 hr
      exact⟨T2,q,q2⟩
     ·cases hr
   ·cases hr
  ·cases hr
def AfM (x y:Option (Option ABlock)):Prop:=match x,y with
 | some a,some b=>blkbeq a b=false
 | none,none=>False
 | _,_=>True
omit hA [Inhabited GlobT] in
theorem Ade:∀ (S S':Store) (n x:Nat),x∈AbO n S S'↔∃ b,x=n+b∧AfM S[b]? S'[b]?
 | [],[],n,x=>by simp [changed_nn,AfM]
 | [],b::S',n,x=>by
   rw [Ako,List.mem_cons,Ade [] S' (n+1) x]
   constructor
   ·rintro(rfl | ⟨c,rfl,h⟩)
    ·exact⟨0,by omega,by simp [AfM]⟩
    ·exact⟨c+1,by omega,by simpa using h⟩
   ·rintro⟨c,rfl,h⟩
    cases c with
    | zero=>exact .inl (by omega)
    | succ c=>exact .inr ⟨c,by omega,by simpa using h⟩
 | a::S,[],n,x=>by
   rw [AbO,List.mem_cons,Ade S [] (n+1) x]
   constructor
   ·rintro(rfl | ⟨c,rfl,h⟩)
    ·exact⟨0,by omega,by simp [AfM]⟩
    ·exact⟨c+1,by omega,by simpa using h⟩
   ·rintro⟨c,rfl,h⟩
    cases c with
    | zero=>exact .inl (by omega)
    | succ c=>exact .inr ⟨c,by omega,by simpa using h⟩
 | a::S,b::S',n,x=>by
   rw [AbO]
   split
   ·rename_i hb
    rw [Ade S S' (n+1) x]
    constructor
    ·rintro⟨c,rfl,h⟩;exact⟨c+1,by omega,by simpa using h⟩
    ·rintro⟨c,rfl,h⟩
     cases c with
     | zero=>simp [AfM,hb] at h
     | succ c=>exact⟨c,by omega,by simpa using h⟩
   ·rename_i hb
    rw [List.mem_cons,Ade S S' (n+1) x]
    constructor
    ·rintro(rfl | ⟨c,rfl,h⟩)
     ·exact⟨0,by omega,by simpa [AfM] using hb⟩
     ·exact⟨c+1,by omega,by simpa using h⟩
    ·rintro⟨c,rfl,h⟩
     cases c with
     | zero=>exact .inl (by omega)
     | succ c=>exact .inr ⟨c,by omega,by simpa using h⟩
omit hA [Inhabited GlobT] in
theorem AdU:∀ (S S' T T':Store) (n:Nat),S.length=T.length→S'.length=T'.length→(∀ b:Nat,AfM S[b]? S'[b]?↔AfM T[b]? T'[b]?)→AbO n S S'=AbO n T T'
 | [],[],T,T',n,h1,h2,_=>by
   have:T=[]:=List.eq_nil_of_length_eq_zero h1.symm
   have:T'=[]:=List.eq_nil_of_length_eq_zero h2.symm
   subst_vars;rfl
 | [],b::S',T,t'::T',n,h1,h2,h=>by
   have:T=[]:=List.eq_nil_of_length_eq_zero h1.symm
   subst this
   rw [Ako,Ako,AdU [] S' [] T' (n+1) rfl (by simpa using h2) fun c=>by simpa using h (c+1)]
 | [],b::S',T,[],n,h1,h2,h=>by simp at h2
 | a::S,[],t::T,T',n,h1,h2,h=>by
   have:T'=[]:=List.eq_nil_of_length_eq_zero h2.symm
   subst this
   rw [AbO,AbO,AdU S [] T [] (n+1) (by simpa using h1) rfl fun c=>by simpa using h (c+1)]
 | a::S,[],[],T',n,h1,h2,h=>by simp at h1
 | a::S,b::S',t::T,t'::T',n,h1,h2,h=>by
   have h0:=h 0
   simp only [List.getElem?_cons_zero,AfM] at h0
   have ih:=AdU S S' T T' (n+1) (by simpa using h1) (by simpa using h2) fun c=>by simpa using h (c+1)
   rw [AbO,AbO,ih]
   cases hb:blkbeq a b<;>cases hc:blkbeq t t'<;>simp_all
 | a::S,b::S',[],T',n,h1,h2,h=>by simp at h1
 | a::S,b::S',T,[],n,h1,h2,h=>by simp at h2
omit hA in
theorem share_fp {T':Store} (h:Rel D O S T) (h':Rel D O S' T'):AbO 0 T T'=AbO 0 S S' :=
 AdU _ _ _ _ 0 h.1 h'.1 fun b=>by
  by_cases hd:D b
  ·obtain⟨h1,h2⟩:=(h.2 b).1 hd
   obtain⟨h3,h4⟩:=(h'.2 b).1 hd
   rw [h1,h2,h3,h4]
   have hl:(O b).isSome=true:=by
    have:b<T.length:=by rw [h.1];exact h.lt hd
    rw [←h2];simp [this]
   obtain⟨x,hx⟩:=Option.isSome_iff_exists.1 hl
   rw [hx]
   simp [AfM,blkbeq_refl]
  ·rw [(h.2 b).2 hd,(h'.2 b).2 hd]
theorem Aie {rec:Rec} (hfr:Acf rec) {N slot:Nat} {i:Aaq} {fr:List AVal} {st':St} {fp:FP} (h:Rel D O S T) (hs:¬ D slot) (hr:Acu AP rec N slot i ⟨fr,S⟩=some (st',fp)) :
 ∃ T',Acu AP rec N slot i ⟨fr,T⟩=some (⟨st'.fr,T'⟩,fp)∧Rel D O st'.S T':=by
 simp only [Acu] at hr ⊢
 split at hr
 ·rename_i hN
  rw [if_pos hN]
  split at hr
  ·cases hr
  ·rename_i hw
   cases hr
   simp only [hw]
   exact⟨T,rfl,h⟩
  ·rename_i hw
   try simp only [hw]
   split at hr
   ·rename_i f as hsh
    try simp only [hsh]
    split at hr
    ·rename_i r S1 hc
     cases hr
     obtain⟨T1,q1,q2⟩:=AfA hA hfr h hc
     simp only [q1,share_fp h q2]
     exact⟨T1,rfl,q2⟩
    ·cases hr
   ·rename_i hsh
    try simp only [hsh]
    split at hr
    ·cases hr
    ·rename_i e rds hx
     cases hr
     simp only [h.run hx]
     have hw:∀ x∈e.wr,¬ D x.1:=fun x hm=>by
      obtain⟨blk,hb⟩:=AiV hx _ (semX_wr hA hx x hm)
      exact h.live hb
     exact⟨_,rfl,h.eff hw hs⟩
 ·cases hr
theorem Amh {rec:Rec} (hfr:Acf rec) {N:Nat} {i:Aaq} {fr:List AVal} {st':St} (h:Rel D O S T) (hr:step1 AP rec N i ⟨fr,S⟩=some st') :
 ∃ T',step1 AP rec N i ⟨fr,T⟩=some ⟨st'.fr,T'⟩∧Rel D O st'.S T':=by
 have hsh:∀ r,AhG AP ⟨fr,S⟩ i.op=some r→AhG AP ⟨fr,T⟩ i.op=some r:=by
  intro r hr
  simp only [AhG] at hr ⊢
  split at hr
  ·rename_i hf;(try simp only [hf]);exact hr
  ·rename_i f as hf
   try simp only [hf]
   split at hr
   ·rename_i hp;(try simp only [hp]);exact hr
   ·rename_i hp
    try simp only [hp]
    split at hr
    ·rename_i hc;rw [if_pos hc];exact hr
    ·rename_i hc
     rw [if_neg hc]
     split at hr
     ·rename_i hc2;rw [if_pos hc2];exact hr
     ·rename_i hc2
      rw [if_neg hc2]
      split at hr
      ·cases hr
      ·rename_i x hx
       simp only [h.run3 hx];exact hr
      ·rename_i hx
       simp only [h.run3 hx];exact hr
 have hk:∀ r,sharesG AP ⟨fr,S⟩ i=some r→sharesG AP ⟨fr,T⟩ i=some r:=by
  intro r hr
  simp only [sharesG] at hr ⊢
  split at hr
  ·exact hsh r hr
  ·exact hr
 have hlen:¬ D S.length:=fun hd=>by have:=h.lt hd;omega
 simp only [step1] at hr ⊢
 split at hr
 ·cases hr
 ·rename_i f as hq
  rw [hk _ hq]
  simp only
  split at hr
  ·rename_i hN
   rw [if_pos hN]
   split at hr
   ·rename_i r S1 hc
    cases hr
    obtain⟨T1,q1,q2⟩:=AfA hA hfr h hc
    simp only [q1]
    exact⟨T1,rfl,q2⟩
   ·cases hr
  ·cases hr
 ·rename_i hq
  rw [hk _ hq]
  simp only
  split at hr
  ·rename_i st1 hn
   cases hr
   have:noted N i ⟨fr,T⟩=some ⟨st'.fr,T⟩∧st'.S=S:=by
    simp only [noted] at hn ⊢
    split at hn
    ·rename_i h1 h2 h3;cases hn;refine⟨?_,rfl⟩;first | rfl | (simp only [h1,h2,h3])
    ·cases hn
   rw [this.2]
   simp only [this.1]
   exact⟨T,rfl,h⟩
  ·rename_i hn
   have hn':noted N i ⟨fr,T⟩=none:=by
    simp only [noted] at hn ⊢
    split at hn
    ·cases hn
    ·rename_i hno
     first
      | rfl
      | (split
         ·rename_i h1 h2 h3;exact(hno _ _ h1 h2 h3).elim
         ·rfl)
   simp only [hn']
   split at hr
   ·rename_i st1 fp hd
    cases hr
    split at hd
    ·rename_i hal
     obtain⟨T',q1,q2⟩:=Aie hA hfr (h.app [none]) hlen hd
     rw [if_pos hal,h.1]
     simp only [q1]
     exact⟨T',rfl,q2⟩
    ·rename_i hal
     obtain⟨T',q1,q2⟩:=Aie hA hfr h hlen hd
     rw [if_neg hal,h.1]
     simp only [q1]
     exact⟨T',rfl,q2⟩
   ·cases hr
theorem Amg {rec:Rec} (hfr:Acf rec) {N:Nat}:∀ (l:List Aaq) {fr:List AVal} {S T:Store} {st':St},Rel D O S T→stepL AP rec N l ⟨fr,S⟩=some st'→∃ T',stepL AP rec N l ⟨fr,T⟩=some ⟨st'.fr,T'⟩∧Rel D O st'.S T'
 | [],fr,S,T,st',h,hr=>by
   simp only [stepL,Option.some.injEq] at hr
   subst hr
   exact⟨T,rfl,h⟩
 | i::l,fr,S,T,st',h,hr=>by
   simp only [stepL] at hr ⊢
   split at hr
   ·rename_i st1 h1
    obtain⟨T1,q1,q2⟩:=Amh hA hfr h h1
    simp only [q1]
    exact Amg hfr l q2 hr
   ·cases hr
theorem drawL_frame {rec:Rec} (hfr:Acf rec) {N:Nat}:∀ (l:List (Aaq × Nat)) {fr:List AVal} {S T:Store} {st':St} {fps:List FP},Rel D O S T→(∀ x∈l,¬ D x.2)→AcD AP rec N l ⟨fr,S⟩=some (st',fps) →
 ∃ T',AcD AP rec N l ⟨fr,T⟩=some (⟨st'.fr,T'⟩,fps)∧Rel D O st'.S T'
 | [],fr,S,T,st',fps,h,_,hr=>by
   simp only [AcD,Option.some.injEq,Prod.mk.injEq] at hr
   obtain⟨rfl,rfl⟩:=hr
   exact⟨T,rfl,h⟩
 | (i,s)::l,fr,S,T,st',fps,h,hs,hr=>by
   simp only [AcD] at hr ⊢
   split at hr
   ·rename_i st1 fp h1
    split at hr
    ·rename_i st2 q h2
     cases hr
     obtain⟨T1,q1,q2⟩:=Aie hA hfr h (hs (i,s) List.mem_cons_self) h1
     simp only [q1]
     obtain⟨T2,p1,p2⟩:=drawL_frame hfr l q2 (fun x hx=>hs x (List.mem_cons_of_mem _ hx)) h2
     simp only [p1]
     exact⟨T2,rfl,p2⟩
    ·cases hr
   ·cases hr
omit [Inhabited GlobT] hA in
theorem Ahb {d n0:Nat} (hd:n0≤d):∀ (l:List Aaq) (n:Nat),n0≤n→∀ s∈slots AP d n l,n0≤s
 | [],_,_,s,hs=>by simp [slots] at hs
 | i::l,n,hn,s,hs=>by
   simp only [slots] at hs
   split at hs
   ·rcases List.mem_cons.1 hs with rfl | hs
    ·exact hn
    ·exact Ahb hd l (n+1) (by omega) s hs
   ·rcases List.mem_cons.1 hs with rfl | hs
    ·exact hd
    ·exact Ahb hd l n hn s hs
theorem draw_frame {rec:Rec} (hfr:Acf rec) {N:Nat} {l:List Aaq} {fr:List AVal} {st':St} {fps:List FP} (h:Rel D O S T)
 (hr:AcD AP rec N (l.zip (slots AP (S.length+nslots AP l) S.length l)) ⟨fr,S++List.replicate (nslots AP l) none⟩=some (st',fps)) :
 ∃ T',AcD AP rec N (l.zip (slots AP (T.length+nslots AP l) T.length l)) ⟨fr,T++List.replicate (nslots AP l) none⟩=some (⟨st'.fr,T'⟩,fps)∧Rel D O st'.S T':=by
 rw [h.1]
 exact drawL_frame hA hfr _ (h.app (List.replicate (nslots AP l) none)) (fun x hx hd=>by
  have h1:=Ahb (AP:=AP) (d:=S.length+nslots AP l) (n0:=S.length) (by omega) l S.length (Nat.le_refl _) x.2 (List.of_mem_zip hx).2
  have:=h.lt hd
  omega) hr
theorem runSeg_frame {rec:Rec} (hfr:Acf rec) {N s:Nat} {l:List Aaq} {fr:List AVal} {st1:St} (h:Rel D O S T) (h1:Agj AP rec N s l ⟨fr,S⟩=some st1):∃ T1,Agj AP rec N s l ⟨fr,T⟩=some ⟨st1.fr,T1⟩∧Rel D O st1.S T1:=by
 unfold Agj at h1 ⊢
 split at h1
 ·exact Amh hA hfr h h1
 ·split at h1
  ·rename_i st2 fps hd
   split at h1
   ·rename_i hok
    cases h1
    obtain⟨T',q1,q2⟩:=draw_frame hA hfr h hd
    refine⟨T',?_,q2⟩
    simp only [q1,hok,if_true]
   ·cases h1
  ·cases h1
theorem AiW {rec:Rec} (hfr:Acf rec) {N:Nat}:∀ (l:List (List Aaq)) (s:Nat) {fr:List AVal} {S T:Store} {st':St},Rel D O S T→AbS AP rec N s l ⟨fr,S⟩=some st'→∃ T',AbS AP rec N s l ⟨fr,T⟩=some ⟨st'.fr,T'⟩∧Rel D O st'.S T'
 | [],s,fr,S,T,st',h,hr=>by
   simp only [AbS,Option.some.injEq] at hr
   subst hr
   exact⟨T,rfl,h⟩
 | l::r,s,fr,S,T,st',h,hr=>by
   simp only [AbS] at hr ⊢
   split at hr
   ·rename_i st1 h1
    obtain⟨T1,q1,q2⟩:=runSeg_frame hA hfr h h1
    rw [q1]
    exact AiW hfr r _ q2 hr
   ·cases hr
theorem F_frame {rec:Rec} (hfr:Acf rec):Acf (F AP rec):=by
 intro D O N c st ex st' T hr h
 obtain⟨fr,S⟩:=st
 cases c<;>simp only [F] at hr ⊢
 case bad=>cases hr
 case skip=>cases hr;exact⟨T,rfl,h⟩
 case exit id=>cases hr;exact⟨T,rfl,h⟩
 case ret=>cases hr;exact⟨T,rfl,h⟩
 case ops l =>
  split at hr
  ·rename_i st1 h1
   cases hr
   obtain⟨T1,q1,q2⟩:=Amg hA hfr l h h1
   simp only [q1]
   exact⟨T1,rfl,q2⟩
  ·cases hr
 case draw l =>
  split at hr
  ·rename_i st1 fps hd
   split at hr
   ·rename_i hok
    cases hr
    obtain⟨T',q1,q2⟩:=draw_frame hA hfr h hd
    simp only [q1,hok,if_true]
    exact⟨T',rfl,q2⟩
   ·cases hr
  ·cases hr
 case drawS segs =>
  split at hr
  ·rename_i st1 h1
   cases hr
   obtain⟨T1,q1,q2⟩:=AiW hA hfr segs 0 h h1
   try simp only [q1]
   exact⟨T1,rfl,q2⟩
  ·cases hr
 case seq a b =>
  cases h1:rec N a ⟨fr,S⟩ with
  | none=>rw [h1] at hr;cases hr
  | some r =>
    obtain⟨ex1,st1⟩:=r
    obtain⟨T1,q1,q2⟩:=hfr D O _ _ _ _ _ T h1 h
    rw [h1] at hr
    rw [show rec N a ⟨fr,T⟩=some (ex1,⟨st1.fr,T1⟩) from q1]
    cases ex1 with
    | normal=>exact hfr D O _ _ _ _ _ T1 hr q2
    | exit id=>cases hr;exact⟨T1,rfl,q2⟩
    | ret=>cases hr;exact⟨T1,rfl,q2⟩
 case cond c a b =>
  split at hr
  ·exact hfr D O _ _ _ _ _ T hr h
  ·exact hfr D O _ _ _ _ _ T hr h
  ·cases hr
 case block id a =>
  cases h1:rec N a ⟨fr,S⟩ with
  | none=>rw [h1] at hr;cases hr
  | some r =>
    obtain⟨ex1,st1⟩:=r
    obtain⟨T1,q1,q2⟩:=hfr D O _ _ _ _ _ T h1 h
    rw [h1] at hr
    rw [show rec N a ⟨fr,T⟩=some (ex1,⟨st1.fr,T1⟩) from q1]
    cases ex1 with
    | normal=>cases hr;exact⟨T1,rfl,q2⟩
    | exit j =>
      simp only at hr ⊢
      split at hr
      ·rename_i hj;cases hr;rw [if_pos hj];exact⟨T1,rfl,q2⟩
      ·rename_i hj;cases hr;rw [if_neg hj];exact⟨T1,rfl,q2⟩
    | ret=>cases hr;exact⟨T1,rfl,q2⟩
 case loop a =>
  cases h1:rec N a ⟨fr,S⟩ with
  | none=>rw [h1] at hr;cases hr
  | some r =>
    obtain⟨ex1,st1⟩:=r
    obtain⟨T1,q1,q2⟩:=hfr D O _ _ _ _ _ T h1 h
    rw [h1] at hr
    rw [show rec N a ⟨fr,T⟩=some (ex1,⟨st1.fr,T1⟩) from q1]
    cases ex1 with
    | normal=>exact hfr D O _ _ _ _ _ T1 hr q2
    | exit id=>cases hr;exact⟨T1,rfl,q2⟩
    | ret=>cases hr;exact⟨T1,rfl,q2⟩
omit hA in
theorem Ajd {fr:List AVal} {d:Option Nat} {v:AVal} {N:Nat} (hd:(d.all fun d=>d<N)=true):get (putO fr d v) N=get fr N:=by
 cases d with
 | none=>rfl
 | some d =>
   have:d<N:=by simpa using hd
   simp only [putO,Afv]
   rw [if_neg (by omega)]
omit hA in
theorem Akd {rec:Rec} {N slot:Nat} {i:Aaq} {st st':St} {fp:FP} (hr:Acu AP rec N slot i st=some (st',fp)):get st'.fr N=get st.fr N:=by
 unfold Acu at hr
 split at hr
 ·rename_i hN
  split at hr
  ·cases hr
  ·cases hr;exact Ajd hN
  ·split at hr
   ·split at hr
    ·cases hr;exact Ajd hN
    ·cases hr
   ·split at hr
    ·cases hr
    ·cases hr;exact Ajd hN
 ·cases hr
omit hA in
theorem step1_keep {rec:Rec} {N:Nat} {i:Aaq} {st st':St} (hi:AhZ i=false) (hr:step1 AP rec N i st=some st'):get st'.fr N=get st.fr N:=by
 unfold step1 at hr
 split at hr
 ·cases hr
 ·split at hr
  ·rename_i hN
   split at hr
   ·cases hr;exact Ajd hN
   ·cases hr
  ·cases hr
 ·split at hr
  ·rename_i st1 hn
   unfold noted at hn
   split at hn
   ·rename_i f args h1 _ _
    simp [AhZ,h1] at hi
   ·cases hn
  ·split at hr
   ·rename_i st1 fp hd
    cases hr
    split at hd
    ·exact Akd (st:=⟨st.fr,st.S++[none]⟩) hd
    ·exact Akd hd
   ·cases hr
omit hA in
theorem stepL_keep {rec:Rec} {N:Nat}:∀ (l:List Aaq) {st st':St},(l.any AhZ)=false→stepL AP rec N l st=some st'→get st'.fr N=get st.fr N
 | [],st,st',_,hr=>by simp only [stepL,Option.some.injEq] at hr;rw [hr]
 | i::l,st,st',hl,hr=>by
   simp only [List.any_cons,Bool.or_eq_false_iff] at hl
   simp only [stepL] at hr
   split at hr
   ·rename_i st1 h1
    rw [stepL_keep l hl.2 hr,step1_keep hl.1 h1]
   ·cases hr
omit hA in
theorem Akf {rec:Rec} {N:Nat}:∀ (l:List (Aaq × Nat)) {st st':St} {fps:List FP},AcD AP rec N l st=some (st',fps)→get st'.fr N=get st.fr N
 | [],st,st',fps,hr=>by simp only [AcD,Option.some.injEq,Prod.mk.injEq] at hr;rw [hr.1]
 | (i,s)::l,st,st',fps,hr=>by
   simp only [AcD] at hr
   split at hr
   ·rename_i st1 fp h1
    split at hr
    ·rename_i st2 q h2
     cases hr
     rw [Akf l h2,Akd h1]
    ·cases hr
   ·cases hr
omit hA in
theorem AkT {rec:Rec} {N:Nat}:∀ (l:List (List Aaq)) (s:Nat) {st st':St},(l.any fun l=>l.any AhZ)=false→AbS AP rec N s l st=some st'→get st'.fr N=get st.fr N
 | [],s,st,st',_,hr=>by simp only [AbS,Option.some.injEq] at hr;rw [hr]
 | l::r,s,st,st',hl,hr=>by
   simp only [List.any_cons,Bool.or_eq_false_iff] at hl
   simp only [AbS] at hr
   split at hr
   ·rename_i st1 h1
    rw [AkT r _ hl.2 hr]
    unfold Agj at h1
    split at h1
    ·rename_i i
     exact step1_keep (by simpa using hl.1) h1
    ·split at h1
     ·rename_i st2 fps hd
      split at h1
      ·cases h1
       exact(Akf _ hd).trans rfl
      ·cases h1
     ·cases h1
   ·cases hr
omit hA in
theorem F_keep {rec:Rec} (hk:KeepN rec):KeepN (F AP rec):=by
 intro N c st ex st' hd hr
 cases c<;>simp only [F] at hr
 case bad=>cases hr
 case skip=>cases hr;rfl
 case exit id=>cases hr;rfl
 case ret=>cases hr;rfl
 case ops l =>
  split at hr
  ·rename_i st1 h1;cases hr;exact stepL_keep l (by simpa [hasDefer] using hd) h1
  ·cases hr
 case draw l =>
  split at hr
  ·rename_i st1 fps h1
   split at hr
   ·cases hr;exact(Akf _ h1).trans rfl
   ·cases hr
  ·cases hr
 case drawS segs =>
  split at hr
  ·rename_i st1 h1;cases hr;exact AkT segs 0 (by simpa [hasDefer] using hd) h1
  ·cases hr
 case seq a b =>
  simp only [hasDefer,Bool.or_eq_false_iff] at hd
  cases h1:rec N a st with
  | none=>rw [h1] at hr;cases hr
  | some r =>
    obtain⟨ex1,st1⟩:=r
    have q:=hk _ _ _ _ _ hd.1 h1
    rw [h1] at hr
    cases ex1 with
    | normal=>rw [hk _ _ _ _ _ hd.2 hr,q]
    | exit id=>cases hr;exact q
    | ret=>cases hr;exact q
 case cond c a b =>
  simp only [hasDefer,Bool.or_eq_false_iff] at hd
  split at hr
  ·exact hk _ _ _ _ _ hd.1 hr
  ·exact hk _ _ _ _ _ hd.2 hr
  ·cases hr
 case block id a =>
  simp only [hasDefer] at hd
  cases h1:rec N a st with
  | none=>rw [h1] at hr;cases hr
  | some r =>
    obtain⟨ex1,st1⟩:=r
    have q:=hk _ _ _ _ _ hd h1
    rw [h1] at hr
    cases ex1 with
    | normal=>cases hr;exact q
    | exit j =>
      simp only at hr
      split at hr
      ·cases hr;exact q
      ·cases hr;exact q
    | ret=>cases hr;exact q
 case loop a =>
  simp only [hasDefer] at hd
  cases h1:rec N a st with
  | none=>rw [h1] at hr;cases hr
  | some r =>
    obtain⟨ex1,st1⟩:=r
    have q:=hk _ _ _ _ _ hd h1
    rw [h1] at hr
    cases ex1 with
    | normal=>rw [hk _ _ _ _ _ (by simpa [hasDefer] using hd) hr,q]
    | exit id=>cases hr;exact q
    | ret=>cases hr;exact q
omit hA in
theorem semX_non {rec:Rec} {slot:Nat} {fr:List AVal} {op:AOp} {e:Eff} {rds:List Nat} (ha:allocsA AP op=false) (h:(semX AP rec slot (opd fr) op).run S=some (e,rds)):e.new=none:=by
 cases op
 case call f args =>
  simp only [semX] at h
  simp only [allocsA] at ha
  split at ha
  ·cases ha
  ·split at ha
   ·rename_i f0 a b
    split at ha
    ·cases ha
    ·rename_i hp
     simp only [opd] at h
     unfold AeH at h
     simp only at h
     split at h
     ·rename_i p hp';rw [hp] at hp';cases hp'
     ·rw [if_neg (by rw [ha];simp)] at h
      obtain⟨as,i1,i2,h1,h2,h3⟩:=run_bind h
      split at h2
      ·split at h2
       ·simp only [RM.run,Option.some.injEq,Prod.mk.injEq] at h2
        obtain⟨rfl,_⟩:=h2;rfl
       ·exact(Aaf h2).elim
      ·exact(Aaf h2).elim
   ·cases ha
 all_goals
  simp only [semX] at h
  exact(sem_non slot _ _ (by simpa [allocsA] using ha)).run h
omit hA in
theorem not_turned {x y:Option (Option ABlock)} (h:¬ AfM x y):y=x:=by
 unfold AfM at h
 split at h
 ·rename_i a b
  have:blkbeq a b=true:=by simpa using h
  rw [blkbeq_eq this]
 ·rfl
 ·exact absurd trivial h
end
end Go.Eng
namespace Go.Eng
open Go
variable [Inhabited GlobT]
theorem Agd {i:Aaq} {fr fr':List AVal} (hfr:∀ t∈uses i,get fr t=get fr' t):wanted fr i.guard=wanted fr' i.guard:=by
 cases hg:i.guard with
 | none=>rfl
 | some tw =>
   obtain⟨t,wt⟩:=tw
   simp only [wanted]
   rw [hfr t (by simp [uses,hg])]
theorem fvOf_congr {i:Aaq} {fr fr':List AVal} (hfr:∀ t∈uses i,get fr t=get fr' t):fvOf fr i.op=fvOf fr' i.op:=by
 cases hop:i.op<;>simp only [fvOf]
 rename_i f args
 have h1:opd fr f=opd fr' f:=AeZ fun t ht=>hfr t (by simp [uses,hop,AaN,ht])
 have h2:args.map (opd fr)=args.map (opd fr'):=AdX fun t ht=>hfr t (by
  unfold uses
  rw [hop]
  simp only [AaN]
  exact List.mem_append_left _ (List.mem_append_right _ ht))
 rw [h1,h2]
theorem Ajk {AP:AaB} {i:Aaq} {fr fr':List AVal} (hfr:∀ t∈uses i,get fr t=get fr' t):isShare AP fr i.op=isShare AP fr' i.op:=by
 unfold isShare
 rw [fvOf_congr hfr]
def FormN (AP:AaB) (rec:Rec) (N slot:Nat) (i:Aaq) (st st':St) (fp:FP):Prop :=
 ∃ e:Eff,st'=⟨putO st.fr i.dst e.val,effS slot e st.S⟩∧fp.2=effIds slot e∧(∀ x∈e.wr,x.1∈fp.1)∧(allocsA AP i.op=false→e.new=none)∧(∀ b∈fp.1,∃blk,st.S[b]?=some (some blk)) ∧
  ∀ fr S,(∀ t∈uses i,get fr t=get st.fr t)→(∀ b∈fp.1,S[b]?=st.S[b]?)→Acu AP rec N slot i ⟨fr,S⟩=some (⟨putO fr i.dst e.val,effS slot e S⟩,fp)
def FormS (AP:AaB) (rec:Rec) (N slot:Nat) (i:Aaq) (st st':St) (fp:FP):Prop :=
 ∃ f as r S1,st'=⟨putO st.fr i.dst r,S1⟩∧fp=([AfK],AfK::AfK::AbO 0 st.S S1)∧callS AP rec f as st.S=some (r,S1) ∧
  ∀ fr S S1',(∀ t∈uses i,get fr t=get st.fr t)→callS AP rec f as S=some (r,S1')→Acu AP rec N slot i ⟨fr,S⟩=some (⟨putO fr i.dst r,S1'⟩,([AfK],AfK::AfK::AbO 0 S S1'))
theorem Ake {P:Program} {AP:AaB} (hA:AOk P AP) {rec:Rec} {N slot:Nat} {i:Aaq} {st st':St} {fp:FP} (h:Acu AP rec N slot i st=some (st',fp)) :
 FormN AP rec N slot i st st' fp∨FormS AP rec N slot i st st' fp:=by
 unfold Acu at h
 split at h
 ·rename_i hN
  split at h
  ·cases h
  ·rename_i hwt
   cases h
   refine .inl ⟨⟨.tuple [],none,[]⟩,rfl,rfl,fun x hx=>by simp at hx,fun _=>rfl,fun x hx=>by simp at hx,fun fr S hfr _=>?_⟩
   unfold Acu
   rw [if_pos hN,Agd hfr,hwt]
   rfl
  ·rename_i hwt
   split at h
   ·rename_i f as hsh
    split at h
    ·rename_i r S1 hr
     cases h
     refine .inr ⟨f,as,r,S1,rfl,rfl,hr,fun fr S S1' hfr hc=>?_⟩
     unfold Acu
     rw [if_pos hN,Agd hfr,hwt]
     simp only
     rw [Ajk hfr,hsh]
     simp only [hc]
    ·cases h
   ·rename_i hsh
    split at h
    ·cases h
    ·rename_i e rds hr
     cases h
     refine .inl ⟨e,rfl,rfl,semX_wr hA hr,fun ha=>semX_non ha hr,AiV hr,fun fr S hfr hb=>?_⟩
     unfold Acu
     rw [if_pos hN,Agd hfr,hwt]
     simp only
     rw [Ajk hfr,hsh]
     simp only
     rw [semX_congr (fr':=st.fr) fun t ht=>hfr t (by simp [uses,ht]),Amq hr hb]
 ·cases h
theorem Ajw {a b:List Nat} (h:disj a b=true):∀ x,x∈a→x ∉ b:=by
 intro x hx
 unfold disj at h
 have:=List.all_eq_true.1 h x hx
 simpa [List.contains_eq_mem] using this
theorem effS_id {slot:Nat} {e:Eff} {S:Store} (h:effIds slot e=[]):effS slot e S=S:=by
 unfold effIds at h
 rw [List.append_eq_nil_iff] at h
 obtain⟨h1,h2⟩:=h
 have h1:e.wr=[]:=by simpa using h1
 unfold effS
 cases hn:e.new with
 | none=>simp only [h1];rfl
 | some b=>rw [hn] at h2;simp at h2
theorem swap_step {P:Program} {AP:AaB} (hA:AOk P AP) {rec:Rec} (hfr:Acf rec) {N s1 s2:Nat} {x y:Aaq} {st st1 st2:St} {f1 f2:FP} (h1:Acu AP rec N s1 x st=some (st1,f1)) (h2:Acu AP rec N s2 y st1=some (st2,f2))
 (hap:apartA x y=true) (hin:indep f1 f2=true) (hs2:allocsA AP y.op=true→st.S[s2]?=some none):∃ st3,Acu AP rec N s2 y st=some (st3,f2)∧Acu AP rec N s1 x st3=some (st2,f1):=by
 obtain⟨a1,a2,a3⟩:=apart_spec hap
 unfold indep at hin
 simp only [Bool.and_eq_true,Bool.or_eq_true,Bool.not_eq_true'] at hin
 obtain⟨⟨⟨⟨i1,i2⟩,i3⟩,i4⟩,i5⟩:=hin
 have d1:=Ajw i1
 have d2:=Ajw i2
 have d3:=Ajw i3
 have hyx:∀ v,∀ t∈uses y,get st.fr t=get (putO st.fr x.dst v) t:=fun v t ht=>(putO_get fun d hd he=>a1 d hd (he▸ht)).symm
 have hxy:∀ v,∀ t∈uses x,get (putO st.fr y.dst v) t=get st.fr t:=fun v t ht=>putO_get fun d hd he=>a2 d hd (he▸ht)
 rcases Ake hA h1 with⟨e1,rfl,g1,w1,n1,l1,k1⟩ | ⟨f,as,r,S1,rfl,rfl,c1,k1⟩<;>rcases Ake hA h2 with⟨e2,rfl,g2,w2,n2,l2,k2⟩ | ⟨f',as',r',S1',rfl,rfl,c2,k2⟩
 ·rw [g1] at d1 d2
  rw [g2] at d2 d3
  refine⟨⟨putO st.fr y.dst e2.val,effS s2 e2 st.S⟩,?_,?_⟩
  ·exact k2 st.fr st.S (hyx _) (fun b hb=>(Ahs fun hm=>d1 b hm hb).symm)
  ·have:=k1 (putO st.fr y.dst e2.val) (effS s2 e2 st.S) (hxy _) (fun b hb=>Ahs (d3 b hb))
   rw [this]
   rw [Aje (fun p q hp hq=>(a3 p q hp hq)),effS_comm d2]
 ·
  have hemp:effIds s1 e1=[]:=by
   rcases i5 with h | h
   ·simp [isSh,AfK] at h
   ·rw [g1] at h;simpa using h
  simp only [effS_id hemp] at c2 d3 ⊢
  refine⟨⟨putO st.fr y.dst r',S1'⟩,k2 st.fr st.S S1' (hyx _) c2,?_⟩
  have:=k1 (putO st.fr y.dst r') S1' (hxy _) (fun b hb=>by
   refine not_turned fun ht=>d3 b hb (List.mem_cons_of_mem _ <| List.mem_cons_of_mem _ ((Ade _ _ 0 b).2 ⟨b,by omega,ht⟩)))
  rw [this,effS_id hemp,Aje (fun p q hp hq=>(a3 p q hp hq))]
 ·
  have hwr:e2.wr=[]:=by
   rcases i4 with h | h
   ·simp [isSh,AfK] at h
   ·have d:=Ajw h
    cases hw:e2.wr with
    | nil=>rfl
    | cons p q =>
      have hp:p∈e2.wr:=by rw [hw];exact List.mem_cons_self
      refine absurd ?_ (d p.1 (w2 p hp))
      rw [g2]
      exact List.mem_append_left _ (List.mem_map.2 ⟨p,hp,rfl⟩)
  have hrd:∀ b∈f2.1,st.S[b]?=S1[b]?:=fun b hb =>
   (not_turned fun ht=>d1 b (List.mem_cons_of_mem _ <| List.mem_cons_of_mem _ ((Ade _ _ 0 b).2 ⟨b,by omega,ht⟩)) hb).symm
  have hy:=k2 st.fr st.S (hyx _) hrd
  refine⟨_,hy,?_⟩
  cases hn:e2.new with
  | none =>
    have he:∀ S:Store,effS s2 e2 S=S:=fun S=>by unfold effS;rw [hn];simp only [hwr];rfl
    rw [he,he]
    have:=k1 (putO st.fr y.dst e2.val) st.S S1 (hxy _) c1
    rw [this,Aje (fun p q hp hq=>(a3 p q hp hq))]
  | some blk =>
    have he:∀ S:Store,effS s2 e2 S=S.set s2 (some blk):=fun S=>by unfold effS;rw [hn];simp only [hwr];rfl
    rw [he,he]
    have hal:allocsA AP y.op=true:=by
     cases ha:allocsA AP y.op with
     | true=>rfl
     | false=>rw [n2 ha] at hn;cases hn
    have hd:=hs2 hal
    have hlt:s2<st.S.length:=(List.getElem?_eq_some_iff.1 hd).1
    have hrel:Rel (fun b=>b=s2) (fun _=>some (some blk)) st.S (st.S.set s2 (some blk)):=by
     refine⟨by simp,fun b=>⟨?_,fun hb=>?_⟩⟩
     ·rintro rfl
      exact⟨hd,by rw [Aag,if_pos ⟨rfl,hlt⟩]⟩
     ·rw [Aag,if_neg (fun h=>hb h.1.symm)]
    obtain⟨T1,q1,q2⟩:=AfA hA hfr hrel c1
    have hT:T1=S1.set s2 (some blk):=by
     apply List.ext_getElem?
     intro b
     by_cases hb:b=s2
     ·subst hb
      have:=(q2.2 b).1 rfl
      have hl:b<S1.length:=(List.getElem?_eq_some_iff.1 this.1).1
      rw [this.2,Aag,if_pos ⟨rfl,hl⟩]
     ·rw [(q2.2 b).2 hb,Aag,if_neg (fun h=>hb h.1.symm)]
    have:=k1 (putO st.fr y.dst e2.val) _ T1 (hxy _) q1
    rw [this,share_fp hrel q2,hT,Aje (fun p q hp hq=>(a3 p q hp hq))]
 ·exact absurd List.mem_cons_self (d1 AfK List.mem_cons_self)
theorem dstep_dead {P:Program} {AP:AaB} (hA:AOk P AP) {rec:Rec} (hfr:Acf rec) {N slot s:Nat} {i:Aaq} {st st':St} {fp:FP} (h:Acu AP rec N slot i st=some (st',fp)) (hd:st.S[s]?=some none) (hs:allocsA AP i.op=true→s≠slot):st'.S[s]?=some none:=by
 rcases Ake hA h with⟨e1,rfl,g1,w1,n1,l1,k1⟩ | ⟨f,as,r,S1,rfl,rfl,c1,k1⟩
 ·simp only
  rw [Ahs,hd]
  unfold effIds
  intro hm
  rcases List.mem_append.1 hm with hm | hm
  ·obtain⟨p,hp,rfl⟩:=List.mem_map.1 hm
   obtain⟨blk,hb⟩:=l1 _ (w1 p hp)
   rw [hd] at hb;cases hb
  ·split at hm
   ·rename_i hn
    have hm:s=slot:=by simpa using hm
    cases ha:allocsA AP i.op with
    | true=>exact hs ha hm
    | false=>rw [n1 ha] at hn;cases hn
   ·simp at hm
 ·have hrel:Rel (fun b=>b=s) (fun _=>some none) st.S st.S:=⟨rfl,fun b=>⟨by rintro rfl;exact⟨hd,hd⟩,fun _=>rfl⟩⟩
  obtain⟨T1,q1,q2⟩:=AfA hA hfr hrel c1
  exact((q2.2 s).1 rfl).1
theorem Afj {AP:AaB} {rec:Rec} {N:Nat} {x:Aaq × Nat} {r:List (Aaq × Nat)} {st st':St} {fps:List FP} (h:AcD AP rec N (x::r) st=some (st',fps)) :
 ∃ st1 fp q,Acu AP rec N x.2 x.1 st=some (st1,fp)∧AcD AP rec N r st1=some (st',q)∧fps=fp::q:=by
 obtain⟨i,s⟩:=x
 simp only [AcD] at h
 split at h
 ·rename_i st1 fp h1
  split at h
  ·rename_i st2 q h2;cases h;exact⟨st1,fp,q,h1,h2,rfl⟩
  ·cases h
 ·cases h
theorem drawL_mk {AP:AaB} {rec:Rec} {N:Nat} {x:Aaq × Nat} {r:List (Aaq × Nat)} {st st1 st':St} {fp:FP} {q:List FP} (h1:Acu AP rec N x.2 x.1 st=some (st1,fp)) (h2:AcD AP rec N r st1=some (st',q)) :
 AcD AP rec N (x::r) st=some (st',fp::q):=by
 obtain⟨i,s⟩:=x
 simp only [AcD,h1,h2]
theorem drawL_first {P:Program} {AP:AaB} (hA:AOk P AP) {rec:Rec} (hfr:Acf rec) {N:Nat} {x:Aaq × Nat} {fx:FP}:∀ (r1:List (Aaq × Nat)) (f1:List FP) (r2:List (Aaq × Nat)) (f2:List FP) (st st':St),r1.length=f1.length →
 AcD AP rec N (r1++x::r2) st=some (st',f1++fx::f2)→(∀ (k:Nat) y fy,r1[k]?=some y→f1[k]?=some fy→apartA y.1 x.1=true∧indep fy fx=true) →
 (allocsA AP x.1.op=true→st.S[x.2]?=some none∧∀ y∈r1,allocsA AP y.1.op=true→x.2≠y.2) →
 AcD AP rec N (x::(r1++r2)) st=some (st',fx::(f1++f2))
 | [],[],r2,f2,st,st',_,h,_,_=>h
 | [],_::_,_,_,_,_,hl,_,_,_=>by simp at hl
 | _::_,[],_,_,_,_,hl,_,_,_=>by simp at hl
 | y::r1,fy::f1,r2,f2,st,st',hl,h,hap,hx=>by
   obtain⟨st1,fp,q,g1,g2,g3⟩:=Afj (x:=y) h
   simp only [List.cons_append,List.cons.injEq] at g3
   obtain⟨rfl,rfl⟩:=g3
   have ih:=drawL_first hA hfr r1 f1 r2 f2 st1 st' (by simpa using hl) g2 (fun k z fz hz hfz=>hap (k+1) z fz (by simpa using hz) (by simpa using hfz))
    (fun ha=>⟨dstep_dead hA hfr g1 (hx ha).1 fun hy=>(hx ha).2 y List.mem_cons_self hy,fun z hz=>(hx ha).2 z (List.mem_cons_of_mem _ hz)⟩)
   obtain⟨st2,fp2,q2,k1,k2,k3⟩:=Afj ih
   simp only [List.cons.injEq] at k3
   obtain⟨rfl,rfl⟩:=k3
   obtain⟨a1,a2⟩:=hap 0 y fy rfl rfl
   obtain⟨st3,m1,m2⟩:=swap_step hA hfr g1 k1 a1 a2 fun ha=>(hx ha).1
   exact drawL_mk m1 (drawL_mk m2 k2)
def item0:Aaq × Nat:=(⟨none,.bad,none,[]⟩,0)
theorem Ami (AP:AaB) (d:Nat):∀ (n:Nat) (l:List Aaq),(slots AP d n l).length=l.length
 | _,[]=>rfl
 | n,i::r=>by
   unfold slots
   split<;>simp [Ami AP d _ r]
theorem Ahc {AP:AaB} {d:Nat}:∀ (n:Nat) (l:List Aaq) (j:Nat) (i:Aaq) (s:Nat),l[j]?=some i→(slots AP d n l)[j]?=some s →
 (allocsA AP i.op=true→n≤s∧s<n+nslots AP l)∧(allocsA AP i.op=false→s=d)
 | _,[],_,_,_,h,_=>by simp at h
 | n,x::r,0,i,s,h,hs=>by
   simp at h;subst h
   unfold slots at hs
   split at hs
   ·rename_i ha
    simp at hs;subst hs
    exact⟨fun _=>⟨Nat.le_refl _,by unfold nslots;simp [ha]⟩,fun h=>by rw [ha] at h;cases h⟩
   ·rename_i ha
    simp at hs;subst hs
    exact⟨fun h=>absurd h ha,fun _=>rfl⟩
 | n,x::r,j+1,i,s,h,hs=>by
   simp at h
   unfold slots at hs
   split at hs
   ·rename_i ha
    simp at hs
    obtain⟨h1,h2⟩:=Ahc (n+1) r j i s h hs
    refine⟨fun h=>?_,h2⟩
    obtain⟨h3,h4⟩:=h1 h
    have:nslots AP (x::r)=nslots AP r+1:=by unfold nslots;simp [ha]
    omega
   ·rename_i ha
    simp at hs
    obtain⟨h1,h2⟩:=Ahc n r j i s h hs
    refine⟨fun h=>?_,h2⟩
    obtain⟨h3,h4⟩:=h1 h
    have:nslots AP (x::r)=nslots AP r:=by unfold nslots;simp [ha]
    omega
theorem Amj {AP:AaB} {d:Nat}:∀ (n:Nat) (l:List Aaq) (j k:Nat) (x y:Aaq) (s:Nat),l[j]?=some x→l[k]?=some y→allocsA AP x.op=true→allocsA AP y.op=true→(slots AP d n l)[j]?=some s→(slots AP d n l)[k]?=some s→j=k
 | _,[],_,_,_,_,_,h,_,_,_,_,_=>by simp at h
 | n,z::r,0,0,_,_,_,_,_,_,_,_,_=>rfl
 | n,z::r,0,k+1,x,y,s,h,h',ha,ha',hs,hs'=>by
   simp at h h';subst h
   unfold slots at hs hs'
   rw [if_pos ha] at hs hs'
   simp at hs hs';subst hs
   have:=(Ahc _ r k y _ h' hs').1 ha'
   omega
 | n,z::r,j+1,0,x,y,s,h,h',ha,ha',hs,hs'=>by
   simp at h h';subst h'
   unfold slots at hs hs'
   rw [if_pos ha'] at hs hs'
   simp at hs hs';subst hs'
   have:=(Ahc _ r j x _ h hs).1 ha
   omega
 | n,z::r,j+1,k+1,x,y,s,h,h',ha,ha',hs,hs'=>by
   simp at h h'
   unfold slots at hs hs'
   split at hs
   ·rename_i hz
    rw [if_pos hz] at hs'
    simp at hs hs'
    rw [Amj (n+1) r j k x y s h h' ha ha' hs hs']
   ·rename_i hz
    rw [if_neg hz] at hs'
    simp at hs hs'
    rw [Amj n r j k x y s h h' ha ha' hs hs']
theorem drawOk_spec {fps:List FP}:∀ (is:List Aaq) (q:List FP) (n:Nat) (i:Aaq) (fp:FP),Afi fps is q=true→is[n]?=some i→q[n]?=some fp→∀ j∈i.un,∃x,fps[j]?=some x∧indep x fp=true
 | [],_,_,_,_,_,h,_,_,_=>by simp at h
 | _::_,[],_,_,_,_,_,h,_,_=>by simp at h
 | x::is,f::q,0,i,fp,h,hi,hf,j,hj=>by
   simp at hi hf;subst hi hf
   simp only [Afi,Bool.and_eq_true] at h
   have:=List.all_eq_true.1 h.1 j hj
   cases hx:fps[j]? with
   | none=>rw [hx] at this;cases this
   | some y=>rw [hx] at this;exact⟨y,rfl,this⟩
 | x::is,f::q,n+1,i,fp,h,hi,hf,j,hj=>by
   simp only [Afi,Bool.and_eq_true] at h
   simp at hi hf
   exact drawOk_spec is q n i fp h.2 hi hf j hj
theorem AgG {bf:List Nat} {is:List Aaq}:∀ (l:List Oper) (k j:Nat) (o:Oper),drawAll bf is k l=true→l[j]?=some o→AgF bf is (k+j) o=true
 | [],_,_,_,_,h=>by simp at h
 | x::r,k,0,o,h,ho=>by
   simp only [drawAll,Bool.and_eq_true] at h
   simp at ho;subst ho;exact h.1
 | x::r,k,j+1,o,h,ho=>by
   simp only [drawAll,Bool.and_eq_true] at h
   simp at ho
   have:=AgG r (k+1) j o h.2 ho
   rwa [Nat.add_assoc,Nat.add_comm 1 j] at this
theorem AeO {P:Program} {ops:Array Oper} {bf:List Nat}:∀ (l:List Oper) (k:Nat) (is:List Aaq),AgR P ops bf k l=some is→is.length=l.length∧∀ (j:Nat) o,l[j]?=some o→∃ i,is[j]?=some i∧AaY P ops (unOf bf (k+j)) o=some i
 | [],_,is,h=>by simp [AgR] at h;subst h;simp
 | o::r,k,is,h=>by
   simp only [AgR] at h
   split at h
   ·rename_i i is' h1 h2
    cases h
    obtain⟨g1,g2⟩:=AeO r (k+1) is' h2
    refine⟨by simp [g1],fun j o' ho=>?_⟩
    cases j with
    | zero=>simp at ho;subst ho;exact⟨i,rfl,h1⟩
    | succ j =>
      simp at ho
      obtain⟨i',q1,q2⟩:=g2 j o' ho
      exact⟨i',by simpa using q1,by rwa [Nat.add_assoc,Nat.add_comm 1 j] at q2⟩
   ·cases h
theorem drawL_len {AP:AaB} {rec:Rec} {N:Nat}:∀ (l:List (Aaq × Nat)) (st st':St) (fps:List FP),AcD AP rec N l st=some (st',fps)→fps.length=l.length
 | [],st,st',fps,h=>by simp [AcD] at h;rw [h.2];rfl
 | x::r,st,st',fps,h=>by
   obtain⟨st1,fp,q,g1,g2,rfl⟩:=Afj h
   simp [drawL_len r st1 st' q g2]
theorem AhK {α:Type} (l:List α) (d:α):(List.range l.length).map (fun j=>l.getD j d)=l:=by
 apply List.ext_getElem?
 intro j
 by_cases h:j<l.length
 ·simp [h]
 ·simp [h]
section
variable {P:Program} {A:Nat→Prop} {N:Nat} {ops:Array Oper} {AP:AaB} {rec:Rec} {is:List Aaq} {bf:List Nat} {sl:List Nat} {fps:List FP} {d s t b0:Nat}
structure DrawT (AP:AaB) (P:Program) (ops:Array Oper) (is:List Aaq) (bf sl:List Nat) (fps:List FP) (d s t b0:Nat):Prop where
 len:is.length=ops.size
 tle:t≤ops.size
 slen:sl.length=t
 ins:∀ (j:Nat) o,ops[j]?=some o→∃ i,is[j]?=some i∧AaY P ops (unOf bf j) o=some i
 dr:∀ (j:Nat) o,ops[j]?=some o→AgF bf is j o=true
 bar:∀ (i:Nat),t≤i→i<ops.size→∀ k,k<t→(bf.getD i 0).testBit k=true
 ok:∀ (i k:Nat),s≤i→i<t→k<i→(bf.getD i 0).testBit k=false→indep (fps.getD k ([],[])) (fps.getD i ([],[]))=true
 sd:∀ (j:Nat) i s',s≤j→is[j]?=some i→sl[j]?=some s'→(allocsA AP i.op=true→s'<d)∧(allocsA AP i.op=false→s'=d)
 sb:∀ (j:Nat) s',s≤j→sl[j]?=some s'→b0≤s'
 si:∀ (j k:Nat) x y s',s≤j→s≤k→is[j]?=some x→is[k]?=some y→allocsA AP x.op=true→allocsA AP y.op=true→sl[j]?=some s'→sl[k]?=some s'→j=k
theorem DrawT.later {i:Nat} (T:DrawT AP P ops is bf sl fps d s t b0) (hs:s≤i) (ht:i<t) {oi:Oper} (hoi:ops[i]?=some oi) {k:Nat} (hk:k<i) (hb:(bf.getD i 0).testBit k=false) :
 apartA ((is.zip sl).getD k item0).1 ((is.zip sl).getD i item0).1=true∧indep (fps.getD k ([],[])) (fps.getD i ([],[]))=true:=by
 have hi:i<ops.size:=(Array.getElem?_eq_some_iff.1 hoi).1
 have hd:=T.dr i oi hoi
 unfold AgF at hd
 simp only [Bool.and_eq_true] at hd
 have h1:=List.all_eq_true.1 hd.2 k (List.mem_range.2 hk)
 rw [hb] at h1
 simp only [Bool.false_eq_true,if_false] at h1
 refine⟨?_,T.ok i k hs ht hk hb⟩
 have hki:k<is.length:=by rw [T.len];omega
 have hii:i<is.length:=by rw [T.len];omega
 have hks:k<sl.length:=by rw [T.slen];omega
 have his:i<sl.length:=by rw [T.slen];omega
 rw [List.getElem?_eq_getElem hki,List.getElem?_eq_getElem hii] at h1
 simp only at h1
 simp only [List.getD_eq_getElem?_getD,List.getElem?_eq_getElem (l:=is.zip sl) (i:=k) (by simp;omega),List.getElem?_eq_getElem (l:=is.zip sl) (i:=i) (by simp;omega),Option.getD_some,List.getElem_zip]
 exact h1
def ClosedL (bf:List Nat) (listed:Array Bool):Prop:=∀ (j:Nat),listed.getD j false=true→∀ (k:Nat),k<j→(bf.getD j 0).testBit k=true→listed.getD k false=true
theorem AlS (hdr:∀ (j:Nat) o,ops[j]?=some o→AgF bf is j o=true) {i:Nat} {oi:Oper} (hoi:ops[i]?=some oi) {listed:Array Bool} (hcl:ClosedL bf listed) (hr:(oi.after.all fun e => !Region.binds .any e || listed.getD e.on false)=true) {k:Nat} (hk:k<i)
 (hb:(bf.getD i 0).testBit k=true):listed.getD k false=true:=by
 have hd:=hdr i oi hoi
 unfold AgF at hd
 simp only [Bool.and_eq_true] at hd
 have h1:=List.all_eq_true.1 hd.2 k (List.mem_range.2 hk)
 rw [hb] at h1
 simp only [if_true] at h1
 rw [Array.any_eq_true] at h1
 obtain⟨n,hn,h2⟩:=h1
 rw [Array.all_eq_true] at hr
 have h3:=hr n hn
 simp only [Bool.and_eq_true,Bool.or_eq_true,decide_eq_true_eq,beq_iff_eq] at h2
 rw [h2.1] at h3
 simp only [Bool.not_true,Bool.false_or] at h3
 rcases h2.2 with h4 | ⟨h4,h5⟩
 ·rw [←h4];exact h3
 ·exact hcl _ h3 k h4 h5
theorem Aia {l:Array Bool} {j:Nat} (hj:j<l.size):l.getD j true=l.getD j false:=by
 simp [Array.getD,hj]
theorem getD_set {l:Array Bool} {i j:Nat} {d:Bool} (hi:i<l.size):(l.setIfInBounds i true).getD j d=if i=j then true else l.getD j d:=by
 by_cases h:i=j
 ·subst h;simp [Array.getD,hi]
 ·by_cases hj:j<l.size
  ·simp [Array.getD,hj,h]
  ·simp [Array.getD,hj,h]
variable (hA:AOk P AP) (hrec:AeF P rec)
include hA hrec
theorem draw_ind {Q:Exit→Act→World→Prop} {st':St} (T:DrawT AP P ops is bf sl fps d s t b0) (q:Nat):∀ (n:Nat) (R:List Nat) (listed:Array Bool) (st:St) (κ:Kap) (a:Act) (w:World),R.length=n→R.Pairwise (·<·)→listed.size=ops.size→(∀ j∈R,s≤j∧j<t)→(∀ j,listed.getD j true=false↔(j∈R∨(t≤j∧j<ops.size)))→ClosedL bf listed →
 (∀ j∈R,∀ i s,is[j]?=some i→sl[j]?=some s→allocsA AP i.op=true→κ[s]?=some none)→RS A κ st.S w→RF A κ w N st.fr a →
 AcD AP rec N (R.map fun j=>(is.zip sl).getD j item0) st=some (st',R.map fun j=>fps.getD j ([],[])) →
 (∀ listed' a' w' κ',listed'.size=ops.size→(∀ j,listed'.getD j true=false↔(t≤j∧j<ops.size))→Ext κ w κ' w'→(∀ (j:Nat),j<b0→κ[j]?=some none→κ'[j]?=some none)→RS A κ' st'.S w'→RF A κ' w' N st'.fr a'→wpAny P .any ops Q q listed' a' w')→wpAny P .any ops Q (q+n) listed a w
 | 0,R,listed,st,κ,a,w,hn,hp,hsz,hRt,hR,hcl,hsl,hS,hF,h,hq=>by
   have hnil:R=[]:=List.length_eq_zero_iff.1 hn
   subst hnil
   simp [AcD] at h
   subst h
   exact hq listed a w κ hsz (fun j=>by rw [hR j];simp) (.refl _ _) (fun _ _ h=>h) hS hF
 | n+1,R,listed,st,κ,a,w,hn,hp,hsz,hRt,hR,hcl,hsl,hS,hF,h,hq=>by
   have htl:=T.tle
   have hlt:∀ j∈R,j<ops.size:=fun j hj=>by have:=(hRt j hj).2;omega
   show wpAny P .any ops Q (q+n+1) listed a w
   refine⟨fun h0=>?_,fun i hi=>?_⟩
   ·exfalso
    cases R with
    | nil=>simp at hn
    | cons r R' =>
      have hr:r<ops.size:=hlt r (by simp)
      have hmem:r∈Region.ready .any ops listed:=by
       unfold Region.ready
       rw [List.mem_filter]
       refine⟨List.mem_range.2 hr,?_⟩
       rw [(hR r).2 (.inl (by simp)),Array.getElem?_eq_getElem hr]
       simp only [Bool.not_false,Bool.true_and,Option.map_some,Option.getD_some]
       have hd:=T.dr r _ (Array.getElem?_eq_getElem hr)
       unfold AgF at hd
       simp only [Bool.and_eq_true] at hd
       have hd1:=hd.1
       rw [Array.all_eq_true] at hd1 ⊢
       intro m hm
       have h1:=hd1 m hm
       simp only [Bool.or_eq_true,decide_eq_true_eq] at h1 ⊢
       refine h1.imp id fun h1=>?_
       generalize (ops[r].after[m]).on=on at h1
       cases hl:listed.getD on false with
       | true=>rfl
       | false =>
         have h2:on∈r::R':=((hR on).1 (by rw [Aia (by rw [hsz];omega)];exact hl)).resolve_right (by have:=(hRt r (by simp)).2;omega)
         rcases List.mem_cons.1 h2 with h3 | h3
         ·omega
         ·have:=List.rel_of_pairwise_cons hp h3
          omega
      rw [h0] at hmem
      simp at hmem
   ·unfold Region.ready at hi
    rw [List.mem_filter,List.mem_range] at hi
    obtain⟨hisz,hi⟩:=hi
    rw [Array.getElem?_eq_getElem hisz] at hi
    simp only [Bool.and_eq_true,Bool.not_eq_true',Option.map_some,Option.getD_some] at hi
    obtain⟨hil,hir⟩:=hi
    have hoi:=Array.getElem?_eq_getElem hisz
    have hiR:i∈R:=by
     rcases (hR i).1 hil with h1 | ⟨h1,-⟩
     ·exact h1
     ·exfalso
      cases R with
      | nil=>simp at hn
      | cons r R' =>
        have hrt:=hRt r (by simp)
        have h2:=AlS T.dr hoi hcl hir (k:=r) (by omega) (T.bar i h1 hisz r hrt.2)
        have h3:=(hR r).2 (.inl (by simp))
        rw [Aia (by rw [hsz];omega),h2] at h3
        cases h3
    have hist:=hRt i hiR
    obtain⟨R1,R2,rfl⟩:=List.append_of_mem hiR
    obtain⟨ii,g1,g2⟩:=T.ins i _ hoi
    have hsi:i<sl.length:=by rw [T.slen];exact hist.2
    have hitem:(is.zip sl).getD i item0=(ii,sl[i]):=by
     have hii:i<is.length:=by rw [T.len];exact hisz
     rw [List.getElem?_eq_getElem hii] at g1
     cases g1
     rw [List.getD_eq_getElem?_getD,List.getElem?_eq_getElem (by simp;omega)]
     simp
    rw [List.map_append,List.map_cons,List.map_append,List.map_cons] at h
    have hp1:∀ k∈R1,k<i:=fun k hk=>(List.pairwise_append.1 hp).2.2 k hk i (by simp)
    have hdead:∀ j∈R1++i::R2,∀ x s,is[j]?=some x→sl[j]?=some s→allocsA AP x.op=true→st.S[s]?=some none:=by
     intro j hj x s hx hs ha
     have hk:=hsl j hj x s hx hs ha
     have hl:s<st.S.length:=by rw [←hS.len];exact(List.getElem?_eq_some_iff.1 hk).1
     cases hb:st.S[s]? with
     | none=>rw [List.getElem?_eq_none_iff] at hb;omega
     | some ob =>
       cases ob with
       | none=>rfl
       | some blk =>
         obtain⟨_,h1,_⟩:=hS.live s blk hb
         rw [hk] at h1;cases h1
    have hfirst:=drawL_first hA hrec.frame _ _ _ _ st st' (by simp) h (fun k y fy hy hfy=>by
     rw [List.getElem?_map] at hy hfy
     cases hk:R1[k]? with
     | none=>rw [hk] at hy;cases hy
     | some kk =>
       rw [hk] at hy hfy
       cases hy;cases hfy
       have hkR:kk∈R1:=List.mem_of_getElem? hk
       refine T.later hist.1 hist.2 hoi (hp1 kk hkR) ?_
       cases hb:(bf.getD i 0).testBit kk with
       | false=>rfl
       | true =>
         have h1:=AlS T.dr hoi hcl hir (hp1 kk hkR) hb
         have h2:=(hR kk).2 (.inl (by simp [hkR]))
         rw [Aia (by rw [hsz];exact hlt kk (by simp [hkR])),h1] at h2
         cases h2) (by
       rw [hitem]
       intro ha
       refine⟨hdead i hiR ii _ g1 (List.getElem?_eq_getElem hsi) ha,fun y hy hay=>?_⟩
       obtain⟨kk,hkR,rfl⟩:=List.mem_map.1 hy
       have hkk:kk<ops.size:=hlt kk (by simp [hkR])
       have hki:kk<is.length:=by rw [T.len];exact hkk
       have hks:kk<sl.length:=by rw [T.slen];exact(hRt kk (by simp [hkR])).2
       have hit:(is.zip sl).getD kk item0=(is[kk],sl[kk]):=by
        rw [List.getD_eq_getElem?_getD,List.getElem?_eq_getElem (by simp;omega)]
        simp
       rw [hit] at hay ⊢
       simp only at hay ⊢
       intro he
       have:=T.si i kk ii is[kk] sl[i] hist.1 (hRt kk (by simp [hkR])).1 g1 (List.getElem?_eq_getElem hki) ha hay (List.getElem?_eq_getElem hsi) (by rw [he];exact List.getElem?_eq_getElem hks)
       have:=hp1 kk hkR
       omega)
    obtain⟨st1,fp1,q,k1,k2,k3⟩:=Afj hfirst
    rw [hitem] at k1
    simp only at k1
    have hslots:=T.sd i ii sl[i] hist.1 g1 (List.getElem?_eq_getElem hsi)
    refine dstep_wp hA hrec hoi g2 hS hF (fun ha=>hsl i hiR ii sl[i] g1 (List.getElem?_eq_getElem hsi) ha) k1 ?_
    intro a' w' κ' e1 e2 e3 e4
    simp only [List.cons.injEq] at k3
    obtain⟨rfl,rfl⟩:=k3
    have hnd:(R1++i::R2).Nodup:=hp.imp (fun h=>Nat.ne_of_lt h)
    have hni:i ∉ R1++R2:=by
     have:=(List.perm_middle (l₁:=R1) (l₂:=R2) (a:=i)).nodup_iff.1 hnd
     exact(List.nodup_cons.1 this).1
    refine draw_ind T q n (R1++R2) (listed.setIfInBounds i true) st1 κ' a' w' (by simp at hn ⊢;omega) ?_ (by simp [hsz]) (fun j hj=>hRt j (by rcases List.mem_append.1 hj with h | h<;>simp [h])) ?_ ?_ ?_ e2 e3 (by rw [List.map_append,List.map_append];exact k2)
     (fun l'' a'' w'' κ'' z1 z2 q1 q0 q2 q3=>hq l'' a'' w'' κ'' z1 z2 (e1.trans q1) (fun j hj hf=>q0 j hj (e4 j (by
       have:=T.sb i sl[i] hist.1 (List.getElem?_eq_getElem hsi)
       omega) hf)) q2 q3)
    ·exact hp.sublist (by simp)
    ·intro j
     rw [getD_set (by rw [hsz];exact hisz)]
     by_cases hj:i=j
     ·subst hj;simp;exact⟨by simpa using hni,fun h=>by omega⟩
     ·rw [if_neg hj,hR j]
      simp [Ne.symm hj]
    ·intro j hj k hk hb
     rw [getD_set (by rw [hsz];exact hisz)] at hj ⊢
     by_cases hik:i=k
     ·rw [if_pos hik]
     ·rw [if_neg hik]
      by_cases hij:i=j
      ·subst hij;exact AlS T.dr hoi hcl hir hk hb
      ·rw [if_neg hij] at hj
       exact hcl j hj k hk hb
    ·intro j hj x s hx hs ha
     have hjR:j∈R1++i::R2:=by
      rcases List.mem_append.1 hj with h | h
      ·exact List.mem_append.2 (.inl h)
      ·exact List.mem_append.2 (.inr (List.mem_cons_of_mem _ h))
     refine e4 s (fun he=>?_) (hsl j hjR x s hx hs ha)
     subst he
     cases hai:allocsA AP ii.op with
     | true =>
       have:=T.si j i x ii _ (hRt j hjR).1 hist.1 hx g1 ha hai hs (List.getElem?_eq_getElem hsi)
       subst this
       exact hni hj
     | false =>
       have h1:=hslots.2 hai
       have h2:=(T.sd j x _ (hRt j hjR).1 hx hs).1 ha
       omega
def At (P:Program) (ops:Array Oper) (Q:Exit→Act→World→Prop) (s:Nat) (a:Act) (w:World):Prop :=
 ∀ listed:Array Bool,listed.size=ops.size→(∀ j,listed.getD j true=false↔(s≤j∧j<ops.size))→wpAny P .any ops Q (ops.size - s) listed a w
omit hA hrec in
theorem closed_of {listed:Array Bool} {s:Nat} (hsz:listed.size=ops.size) (h:∀ j,listed.getD j true=false↔(s≤j∧j<ops.size)):ClosedL bf listed:=by
 intro j hj k hk _
 have hjs:j<ops.size:=by
  rcases Nat.lt_or_ge j ops.size with h | h
  ·exact h
  ·simp [Array.getD,hsz,Nat.not_lt.2 h] at hj
 cases hl:listed.getD k false with
 | true=>rfl
 | false =>
   have h1:=(h k).1 (by rw [Aia (by rw [hsz];omega)];exact hl)
   have h2:=(h j).2 ⟨by omega,hjs⟩
   rw [Aia (by rw [hsz];omega),hj] at h2
   cases h2
omit hA hrec in
theorem at_end {Q:Exit→Act→World→Prop} {a:Act} {w:World} (h:Q .normal a w):At P ops Q ops.size a w:=by
 intro listed hsz hl
 rw [Nat.sub_self]
 refine⟨?_,h⟩
 unfold Region.ready
 rw [List.filter_eq_nil_iff]
 intro i _ hi
 simp only [Bool.and_eq_true,Bool.not_eq_true'] at hi
 have:=(hl i).1 hi.1
 omega
theorem at_one {Q:Exit→Act→World→Prop} {κ:Kap} {st st':St} {a:Act} {w:World} (hdr:∀ (j:Nat) o,ops[j]?=some o→AgF bf is j o=true) {s:Nat} {o:Oper} (ho:ops[s]?=some o) {i:Aaq} {un:List Nat} (hc:AaY P ops un o=some i)
 (hbar:∀ (i:Nat),s+1≤i→i<ops.size→(bf.getD i 0).testBit s=true)
 (hS:RS A κ st.S w) (hF:RF A κ w N st.fr a) (h:step1 AP rec N i st=some st') (hk:∀ a' w' κ',ExtF κ w κ' w'→RS A κ' st'.S w'→RF A κ' w' N st'.fr a'→At P ops Q (s+1) a' w'):At P ops Q s a w:=by
 intro listed hsz hl
 have hss:s<ops.size:=(Array.getElem?_eq_some_iff.1 ho).1
 have hcl:ClosedL bf listed:=closed_of hsz hl
 obtain⟨q,hq⟩:∃ q,ops.size - s=q+1:=⟨ops.size - s - 1,by omega⟩
 have hq2:ops.size - (s+1)=q:=by omega
 rw [hq]
 refine⟨fun h0=>?_,fun k hk2=>?_⟩
 ·exfalso
  have hmem:s∈Region.ready .any ops listed:=by
   unfold Region.ready
   rw [List.mem_filter]
   refine⟨List.mem_range.2 hss,?_⟩
   rw [(hl s).2 ⟨Nat.le_refl _,hss⟩,ho]
   simp only [Bool.not_false,Bool.true_and,Option.map_some,Option.getD_some]
   have hd:=hdr s o ho
   unfold AgF at hd
   simp only [Bool.and_eq_true] at hd
   have hd1:=hd.1
   rw [Array.all_eq_true] at hd1 ⊢
   intro m hm
   have h1:=hd1 m hm
   simp only [Bool.or_eq_true,decide_eq_true_eq] at h1 ⊢
   refine h1.imp id fun h1=>?_
   generalize (o.after[m]).on=on at h1
   cases hlo:listed.getD on false with
   | true=>rfl
   | false =>
     have:=(hl on).1 (by rw [Aia (by rw [hsz];omega)];exact hlo)
     omega
  rw [h0] at hmem
  simp at hmem
 ·unfold Region.ready at hk2
  rw [List.mem_filter,List.mem_range] at hk2
  obtain⟨hksz,hk2⟩:=hk2
  rw [Array.getElem?_eq_getElem hksz] at hk2
  simp only [Bool.and_eq_true,Bool.not_eq_true',Option.map_some,Option.getD_some] at hk2
  obtain⟨hkl,hkr⟩:=hk2
  have hks:k=s:=by
   have h1:=(hl k).1 hkl
   rcases Nat.lt_or_ge s k with h2 | h2
   ·exfalso
    have h3:=AlS hdr (Array.getElem?_eq_getElem hksz) hcl hkr (k:=s) h2 (hbar k h2 hksz)
    have h4:=(hl s).2 ⟨Nat.le_refl _,hss⟩
    rw [Aia (by rw [hsz];omega),h3] at h4
    cases h4
   ·omega
  subst hks
  refine step1_wp hA hrec ho hc hS hF h ?_
  intro a' w' κ' k1 k2 k3
  have:=hk a' w' κ' k1 k2 k3 (listed.setIfInBounds k true) (by simp [hsz]) (fun j=>by
   rw [getD_set (by rw [hsz];exact hss)]
   by_cases hkj:k=j
   ·subst hkj;simp;omega
   ·rw [if_neg hkj,hl j]
    omega)
  rw [hq2] at this
  exact this
theorem at_many {Q:Exit→Act→World→Prop} {κ:Kap} {st st':St} {a:Act} {w:World} {l:List Aaq} {q:List FP} {s:Nat} (hlen:is.length=ops.size) (hsl:s+l.length≤ops.size) (hl:∀ (j:Nat) i,l[j]?=some i→is[s+j]?=some i)
 (hins:∀ (j:Nat) o,ops[j]?=some o→∃ i,is[j]?=some i∧AaY P ops (unOf bf j) o=some i) (hdr:∀ (j:Nat) o,ops[j]?=some o→AgF bf is j o=true)
 (hbar:∀ (i:Nat),s+l.length≤i→i<ops.size→∀ k,k<s+l.length→(bf.getD i 0).testBit k=true)
 (hS:RS A κ st.S w) (hF:RF A κ w N st.fr a)
 (h:AcD AP rec N (l.zip (slots AP (st.S.length+nslots AP l) st.S.length l)) ⟨st.fr,st.S++List.replicate (nslots AP l) none⟩=some (st',q)) (hok:Afi (List.replicate s ([],[])++q) l q=true)
 (hk:∀ a' w' κ',ExtF κ w κ' w'→RS A κ' st'.S w'→RF A κ' w' N st'.fr a'→At P ops Q (s+l.length) a' w'):At P ops Q s a w:=by
 intro listed hsz hli
 have hql:=drawL_len _ _ _ _ h
 simp only [List.length_zip,Ami,Nat.min_self] at hql
 obtain⟨r1,r2⟩:=AjO hS (nslots AP l)
 have hslen:=Ami AP (st.S.length+nslots AP l) st.S.length l
 generalize hslot:slots AP (st.S.length+nslots AP l) st.S.length l=sl0 at *
 have hget:∀ (j:Nat),j<l.length→(is.zip (List.replicate s 0++sl0)).getD (s+j) item0=(l.zip sl0).getD j item0:=by
  intro j hj
  have h1:l[j]?=some l[j]:=by simp [hj]
  have h2:=hl j _ h1
  have h3:(List.replicate s 0++sl0)[s+j]?=some (sl0[j]'(by omega)):=by
   rw [List.getElem?_append_right (by simp)]
   simp
  rw [List.getD_eq_getElem?_getD,List.getD_eq_getElem?_getD,(List.getElem?_zip_eq_some.2 ⟨h2,h3⟩:(is.zip (List.replicate s 0++sl0))[s+j]?=some (l[j],sl0[j]'(by omega))),
   (List.getElem?_zip_eq_some.2 ⟨h1,by rw [List.getElem?_eq_getElem (by omega)]⟩:(l.zip sl0)[j]?=some (l[j],sl0[j]'(by omega)))]
 have hz:(List.range' s l.length).map (fun j=>(is.zip (List.replicate s 0++sl0)).getD j item0)=l.zip sl0:=by
  have:=AhK (l.zip sl0) item0
  rw [List.length_zip,hslen,Nat.min_self] at this
  rw [←this,List.range'_eq_map_range,List.map_map]
  exact List.map_congr_left fun j hj=>hget j (List.mem_range.1 hj)
 have hf:(List.range' s l.length).map (fun j=>(List.replicate s ([],[])++q).getD j (([],[]):FP))=q:=by
  have:=AhK q (([],[]):FP)
  rw [hql] at this
  refine Eq.trans ?_ this
  rw [List.range'_eq_map_range,List.map_map]
  refine List.map_congr_left fun j hj=>?_
  simp only [Function.comp,List.getD_eq_getElem?_getD]
  rw [List.getElem?_append_right (by simp)]
  simp
 have hsize:ops.size - s=(ops.size - (s+l.length))+l.length:=by omega
 rw [hsize]
 refine draw_ind (κ:=κ++List.replicate (nslots AP l) none) (st:=⟨st.fr,st.S++List.replicate (nslots AP l) none⟩) (is:=is) (bf:=bf) (sl:=List.replicate s 0++sl0) (fps:=List.replicate s ([],[])++q) (d:=st.S.length+nslots AP l) (s:=s) (t:=s+l.length) hA hrec
  (b0:=st.S.length) ⟨hlen,hsl,by simp [hslen],hins,hdr,hbar,fun i k hi hit hki hb=>?_,fun j i s' hj hi hs=>?_,fun j s' hj hs=>?_,fun j k x y s' hj hk hx hy ha hb hs hs'=>?_⟩
  _ l.length (List.range' s l.length) listed a w (by simp) (List.pairwise_lt_range' (step:=1)) hsz ?_ ?_ (closed_of hsz hli) ?_ r2 (hF.mono r1) (by rw [hz,hf];exact h) ?_
 ·have hlj:l[i - s]?=some l[i - s]:=by rw [List.getElem?_eq_getElem]
  obtain⟨o,ho⟩:∃ o,ops[i]?=some o:=⟨ops[i]'(by omega),by simp⟩
  obtain⟨ii,g1,g2⟩:=hins i o ho
  have h2:=hl _ _ hlj
  rw [show s+(i - s)=i by omega,g1] at h2
  cases h2
  have hun:=(AcJ g2).2.2.1
  have hqi:q[i - s]?=some (q[i - s]'(by omega)):=by rw [List.getElem?_eq_getElem]
  obtain⟨x,hx,hin⟩:=drawOk_spec l q (i - s) _ _ hok hlj hqi k (by rw [hun];exact List.mem_filter.2 ⟨List.mem_range.2 hki,by rw [hb];rfl⟩)
  have e1:(List.replicate s ([],[])++q).getD k (([],[]):FP)=x:=by rw [List.getD_eq_getElem?_getD,hx];rfl
  have e2:(List.replicate s ([],[])++q).getD i (([],[]):FP)=q[i - s]'(by omega):=by
   rw [List.getD_eq_getElem?_getD,List.getElem?_append_right (by simp;omega)]
   simp only [List.length_replicate,hqi,Option.getD_some]
  rw [e1,e2];exact hin
 ·rw [List.getElem?_append_right (by simpa using hj),List.length_replicate] at hs
  have hjl:j - s<l.length:=by have:=(List.getElem?_eq_some_iff.1 hs).1;omega
  have h1:l[j - s]?=some l[j - s]:=by rw [List.getElem?_eq_getElem]
  have h2:=hl _ _ h1
  rw [show s+(j - s)=j by omega,hi] at h2
  cases h2
  rw [←hslot] at hs
  obtain⟨q1,q2⟩:=Ahc _ _ _ _ _ h1 hs
  exact⟨fun ha=>(q1 ha).2,q2⟩
 ·rw [List.getElem?_append_right (by simpa using hj),List.length_replicate] at hs
  rw [←hslot] at hs
  exact Ahb (by omega) l _ (Nat.le_refl _) s' (List.mem_of_getElem? hs)
 ·rw [List.getElem?_append_right (by simpa using hj),List.length_replicate] at hs
  rw [List.getElem?_append_right (by simpa using hk),List.length_replicate] at hs'
  have hjl:j - s<l.length:=by have:=(List.getElem?_eq_some_iff.1 hs).1;omega
  have hkl:k - s<l.length:=by have:=(List.getElem?_eq_some_iff.1 hs').1;omega
  have h1:l[j - s]?=some l[j - s]:=by rw [List.getElem?_eq_getElem]
  have h2:=hl _ _ h1
  rw [show s+(j - s)=j by omega,hx] at h2
  cases h2
  have h3:l[k - s]?=some l[k - s]:=by rw [List.getElem?_eq_getElem]
  have h4:=hl _ _ h3
  rw [show s+(k - s)=k by omega,hy] at h4
  cases h4
  rw [←hslot] at hs hs'
  have:=Amj _ _ _ _ _ _ _ h1 h3 ha hb hs hs'
  omega
 ·intro j hj
  rw [List.mem_range'_1] at hj
  exact hj
 ·intro j
  rw [hli j,List.mem_range'_1]
  omega
 ·intro j hj i s' hi hs ha
  rw [List.mem_range'_1] at hj
  rw [List.getElem?_append_right (by simpa using hj.1),List.length_replicate] at hs
  have h1:l[j - s]?=some (l[j - s]'(by omega)):=by rw [List.getElem?_eq_getElem]
  have h2:=hl _ _ h1
  rw [show s+(j - s)=j by omega,hi] at h2
  cases h2
  rw [←hslot] at hs
  obtain⟨q1,q2⟩:=Ahc _ _ _ _ _ h1 hs
  have:=q1 ha
  have hl:=hS.len
  rw [List.getElem?_append_right (by omega),List.getElem?_replicate,if_pos (by omega)]
 ·intro l'' a' w' κ' z1 z2 e1 e0 e2 e3
  refine hk a' w' κ' ⟨r1.trans e1,fun j hj=>e0 j ?_ (Ahw _ _ _ _ hj)⟩ e2 e3 l'' z1 z2
  rw [←hS.len];exact(List.getElem?_eq_some_iff.1 hj).1
theorem segs_at {Q:Exit→Act→World→Prop} {st':St} (hlen:is.length=ops.size) (hins:∀ (j:Nat) o,ops[j]?=some o→∃ i,is[j]?=some i∧AaY P ops (unOf bf j) o=some i) (hdr:∀ (j:Nat) o,ops[j]?=some o→AgF bf is j o=true) :
 ∀ (ss:List (List Aaq)) (s:Nat) (st:St) (κ:Kap) (a:Act) (w:World),is.drop s=ss.flatten→s≤ops.size→segOk s ss=true→RS A κ st.S w→RF A κ w N st.fr a→AbS AP rec N s ss st=some st' →
 (∀ a' w' κ',ExtF κ w κ' w'→RS A κ' st'.S w'→RF A κ' w' N st'.fr a'→Q .normal a' w')→At P ops Q s a w
 | [],s,st,κ,a,w,hd,hs,hok,hS,hF,h,hq=>by
   simp [AbS] at h;subst h
   have:s=ops.size:=by
    have:=congrArg List.length hd
    simp at this;omega
   subst this
   exact at_end (hq a w κ (.refl _ _) hS hF)
 | l::r,s,st,κ,a,w,hd,hs,hok,hS,hF,h,hq=>by
   simp only [List.flatten_cons] at hd
   have hl:∀ (j:Nat) i,l[j]?=some i→is[s+j]?=some i:=fun j i hj=>by
    have h1:(is.drop s)[j]?=some i:=by rw [hd,List.getElem?_append_left (List.getElem?_eq_some_iff.1 hj).1];exact hj
    rw [List.getElem?_drop] at h1;exact h1
   have hdl:is.length - s=l.length+r.flatten.length:=by
    have:=congrArg List.length hd
    simpa using this
   have hsl:s+l.length≤ops.size:=by omega
   have hd2:is.drop (s+l.length)=r.flatten:=by rw [←List.drop_drop,hd];simp
   simp only [segOk,Bool.and_eq_true] at hok
   have hbar:∀ (i:Nat),s+l.length≤i→i<ops.size→∀ k,k<s+l.length→(bf.getD i 0).testBit k=true:=by
    intro i hi hisz k hk
    cases r with
    | nil=>simp at hdl;omega
    | cons l2 r2 =>
      have h1:=hok.2
      simp only [segOk,Bool.and_eq_true] at h1
      obtain⟨o,ho⟩:∃ o,ops[i]?=some o:=⟨ops[i],by simp [hisz]⟩
      obtain⟨ii,g1,g2⟩:=hins i o ho
      have hmem:ii∈l2++r2.flatten:=by
       have h2:(is.drop (s+l.length))[i - (s+l.length)]?=some ii:=by
        rw [List.getElem?_drop,show s+l.length+(i - (s+l.length))=i by omega];exact g1
       rw [hd2] at h2
       simpa using List.mem_of_getElem? h2
      have h3:=List.all_eq_true.1 h1.1 ii hmem
      have hun:=(AcJ g2).2.2.1
      cases hb:(bf.getD i 0).testBit k with
      | true=>rfl
      | false =>
        have h4:=List.all_eq_true.1 h3 k (by rw [hun];exact List.mem_filter.2 ⟨List.mem_range.2 (by omega),by rw [hb];rfl⟩)
        simp at h4;omega
   simp only [AbS] at h
   split at h
   ·rename_i st1 hst
    have next:∀ a' w' κ',ExtF κ w κ' w'→RS A κ' st1.S w'→RF A κ' w' N st1.fr a'→At P ops Q (s+l.length) a' w':=fun a' w' κ' k1 k2 k3 =>
     segs_at hlen hins hdr r (s+l.length) st1 κ' a' w' hd2 hsl hok.2 k2 k3 h (fun a'' w'' κ'' q1 q2 q3=>hq a'' w'' κ'' (k1.trans q1) q2 q3)
    unfold Agj at hst
    split at hst
    ·rename_i i
     have hi:=hl 0 i rfl
     have his:s<ops.size:=by simp at hsl;omega
     obtain⟨o,ho⟩:∃ o,ops[s]?=some o:=⟨ops[s],by simp [his]⟩
     obtain⟨ii,g1,g2⟩:=hins s o ho
     rw [Nat.add_zero,g1] at hi
     cases hi
     exact at_one hA hrec hdr ho g2 (fun i h1 h2=>hbar i h1 h2 s (by simp)) hS hF hst next
    ·split at hst
     ·rename_i st2 q hdr2
      split at hst
      ·rename_i hok2
       cases hst
       exact at_many hA hrec hlen hsl hl hins hdr hbar hS hF hdr2 hok2 next
      ·cases hst
     ·cases hst
   ·cases h
theorem region_at {κ:Kap} {w:World} {a:Act} {id:Nat} {st st':St} {Q:Exit→Act→World→Prop} {ss:List (List Aaq)} (hc:compileDraw P ops=some is) (hfl:ss.flatten=is) (hok:segOk 0 ss=true) (hS:RS A κ st.S w) (hF:RF A κ w N st.fr a)
 (h:AbS AP rec N 0 ss st=some st') (hq:∀ a' w' κ',ExtF κ w κ' w'→RS A κ' st'.S w'→RF A κ' w' N st'.fr a'→Q .normal a' w'):(Code.region id ops true).wp P Q a w:=by
 unfold compileDraw at hc
 split at hc
 ·rename_i is' hun
  split at hc
  ·rename_i hdr
   cases hc
   simp only [Bool.and_eq_true] at hdr
   obtain⟨hm,hdr⟩:=hdr
   obtain⟨c1,c2⟩:=AeO _ _ _ hun
   have hlen:is.length=ops.size:=by simpa using c1
   refine wp_region_any hm ?_
   have x0:ExtF κ w κ {w with drawn:=w.drawn+1}:=⟨Ext.of_heap rfl ⟨rfl,rfl,rfl⟩,fun _ h=>h⟩
   have hS1:=(hS.of_heap rfl ⟨rfl,rfl,rfl⟩:RS A κ st.S {w with drawn:=w.drawn+1})
   refine segs_at hA hrec (is:=is) (bf:=(Region.before ops).toList) hlen (fun j o ho=>?_) (fun j o ho=>?_) ss 0 st κ a _ (by rw [List.drop_zero,hfl]) (Nat.zero_le _) hok hS1 (hF.mono x0.ext) h (fun a' w' κ' e1 e2 e3=>hq a' w' κ' (x0.trans e1) e2 e3) _ (by simp) (fun j=>?_)
   ·obtain⟨i,q1,q2⟩:=c2 j o (by simpa using ho)
    exact⟨i,q1,by simpa using q2⟩
   ·have:=AgG _ _ j o hdr (by simpa using ho)
    simpa using this
   ·by_cases hj:j<ops.size
    ·simp [Array.getD,hj]
    ·simp [Array.getD,hj]
  ·cases hc
 ·cases hc
theorem draw_wp {κ:Kap} {w:World} {a:Act} {id:Nat} {st st':St} {fps:List FP} {Q:Exit→Act→World→Prop} (hc:compileDraw P ops=some is) (hS:RS A κ st.S w) (hF:RF A κ w N st.fr a)
 (h:AcD AP rec N (is.zip (slots AP (st.S.length+nslots AP is) st.S.length is)) ⟨st.fr,st.S++List.replicate (nslots AP is) none⟩=some (st',fps)) (hok:Afi fps is fps=true)
 (hq:∀ a' w' κ',ExtF κ w κ' w'→RS A κ' st'.S w'→RF A κ' w' N st'.fr a'→Q .normal a' w'):(Code.region id ops true).wp P Q a w:=by
 unfold compileDraw at hc
 split at hc
 ·rename_i is' hun
  split at hc
  ·rename_i hdr
   cases hc
   simp only [Bool.and_eq_true] at hdr
   obtain⟨hm,hdr⟩:=hdr
   obtain⟨c1,c2⟩:=AeO _ _ _ hun
   have hlen:is.length=ops.size:=by simpa using c1
   refine wp_region_any hm ?_
   have x0:ExtF κ w κ {w with drawn:=w.drawn+1}:=⟨Ext.of_heap rfl ⟨rfl,rfl,rfl⟩,fun _ h=>h⟩
   have hS1:=(hS.of_heap rfl ⟨rfl,rfl,rfl⟩:RS A κ st.S {w with drawn:=w.drawn+1})
   refine at_many (l:=is) (s:=0) (is:=is) (bf:=(Region.before ops).toList) hA hrec hlen (by omega) (fun j i hj=>by rw [Nat.zero_add];exact hj) (fun j o ho=>?_) (fun j o ho=>?_) (fun i h1 h2=>by omega) hS1 (hF.mono x0.ext) h (by simpa using hok)
    (fun a' w' κ' e1 e2 e3=>by rw [Nat.zero_add,hlen];exact at_end (hq a' w' κ' (x0.trans e1) e2 e3)) _ (by simp) (fun j=>?_)
   ·obtain⟨i,q1,q2⟩:=c2 j o (by simpa using ho)
    exact⟨i,q1,by simpa using q2⟩
   ·have:=AgG _ _ j o hdr (by simpa using ho)
    simpa using this
   ·by_cases hj:j<ops.size
    ·simp [Array.getD,hj]
    ·simp [Array.getD,hj]
  ·cases hc
 ·cases hc
end
end Go.Eng
namespace Go.Eng
open Go
variable [Inhabited GlobT]
theorem segs_flat:∀ (is:List Aaq) (j:Nat),(segs j is).flatten=is
 | [],_=>rfl
 | i::is,j=>by
   have ih:=segs_flat is (j+1)
   unfold segs
   split
   ·rename_i l r h
    rw [h] at ih
    split
    ·simp only [List.flatten_cons,List.cons_append,List.nil_append]
     simpa using ih
    ·simp only [List.flatten_cons,List.cons_append]
     simpa using ih
   ·rename_i h
    rw [h] at ih
    simp at ih
    subst ih
    rfl
section
variable {P:Program} {AP:AaB} (hA:AOk P AP)
theorem Ams {c:Code} {Q Q':Exit→Act→World→Prop} (hq:∀ e a w,Q e a w→Q' e a w):∀ (n:Nat) (a:Act) (w:World),Code.rounds P c Q n a w→Code.rounds P c Q' n a w
 | 0,_,_,h=>h
 | n+1,a,w,h=>wp_mono h fun e a w he=>by
   cases e with
   | normal=>exact Ams hq n a w he
   | exit id=>exact hq _ _ _ he
   | goto l=>exact hq _ _ _ he
   | ret=>exact hq _ _ _ he
   | panic c=>exact hq _ _ _ he
   | outgrown=>exact hq _ _ _ he
def SimLoop (P:Program) (rec:Rec):Prop :=
 ∀ N c ac st ex st',compileCode P c=some ac→rec N (.loop ac) st=some (ex,st')→∃ m,∀ A κ a w,RS A κ st.S w→RF A κ w N st.fr a→Code.rounds P c (Post A κ w N ex st') m a w
theorem post_trans {A:Nat→Prop} {κ κ1:Kap} {w w1:World} {N:Nat} {ex:AbV} {st:St} (h:ExtF κ w κ1 w1) {e:Exit} {a:Act} {w':World} (hp:Post A κ1 w1 N ex st e a w'):Post A κ w N ex st e a w':=by
 obtain⟨h1,κ',h2,h3,h4⟩:=hp
 exact⟨h1,κ',h.trans h2,h3,h4⟩
include hA
theorem sim_step {rec:Rec} (hrec:AeF P rec) (hloop:SimLoop P rec):SimLoop P (F AP rec):=by
 intro N c ac st ex st' hc h
 simp only [F] at h
 cases hr:rec N ac st with
 | none=>rw [hr] at h;cases h
 | some r =>
   obtain⟨ex1,st1⟩:=r
   rw [hr] at h
   cases ex1 with
   | normal =>
     simp only at h
     obtain⟨m,hm⟩:=hloop N c ac st1 ex st' hc h
     refine⟨m+1,fun A κ a w hS hF=>?_⟩
     rw [rounds_succ]
     refine wp_mono (hrec.sim N c ac st _ st1 hc hr A κ a w hS hF) ?_
     rintro e a' w' ⟨rfl,κ',k1,k2,k3⟩
     exact Ams (fun e a w hp=>post_trans k1 hp) m a' w' (hm A κ' a' w' k2 k3)
   | exit id =>
     cases h
     refine⟨1,fun A κ a w hS hF=>?_⟩
     rw [rounds_succ]
     refine wp_mono (hrec.sim N c ac st _ _ hc hr A κ a w hS hF) ?_
     rintro e a' w' ⟨rfl,hp⟩
     exact⟨rfl,hp⟩
   | ret =>
     cases h
     refine⟨1,fun A κ a w hS hF=>?_⟩
     rw [rounds_succ]
     refine wp_mono (hrec.sim N c ac st _ _ hc hr A κ a w hS hF) ?_
     rintro e a' w' ⟨rfl,hp⟩
     exact⟨rfl,hp⟩
theorem sim_code {rec:Rec} (hrec:AeF P rec) (hloop:SimLoop P rec):AeF P (F AP rec):=by
 refine⟨?_,F_keep hrec.keep,F_frame hA hrec.frame⟩
 intro N c
 induction c with
 | skip =>
   intro ac st ex st' hc h A κ a w hS hF
   simp [compileCode] at hc;subst hc
   simp [F] at h;obtain⟨rfl,rfl⟩:=h
   exact wp_skip ⟨rfl,κ,.refl _ _,hS,hF⟩
 | label l =>
   intro ac st ex st' hc h A κ a w hS hF
   simp [compileCode] at hc;subst hc
   simp [F] at h;obtain⟨rfl,rfl⟩:=h
   exact wp_label ⟨rfl,κ,.refl _ _,hS,hF⟩
 | region id ops draw =>
   intro ac st ex st' hc h A κ a w hS hF
   cases draw with
   | false =>
     simp only [compileCode] at hc
     cases his:compileSeq P ops ops.toList with
     | none=>simp [his] at hc
     | some is =>
       simp [his] at hc;subst hc
       simp only [F] at h
       split at h
       ·rename_i st1 hst
        cases h
        refine wp_region ?_
        rw [List.range_eq_range']
        have:=Aha (N:=N) (Q:=Post A κ w N .normal _) hA hrec ops.toList 0 is st _ κ a w (by simp) his hS hF hst (fun a' w' κ' q1 q2 q3=>⟨rfl,κ',q1,q2,q3⟩)
        simpa using this
       ·cases h
   | true =>
     simp only [compileCode] at hc
     cases his:compileDraw P ops with
     | none=>simp [his] at hc
     | some is =>
       simp only [his,Option.map_some,Option.some.injEq] at hc;subst hc
       unfold drawC at h
       split at h
       ·rename_i hsg
        simp only [Bool.and_eq_true] at hsg
        simp only [F] at h
        split at h
        ·rename_i st1 hst
         cases h
         exact region_at hA hrec his (segs_flat is 0) hsg.2 hS hF hst (fun a' w' κ' q1 q2 q3=>⟨rfl,κ',q1,q2,q3⟩)
        ·cases h
       ·simp only [F] at h
        split at h
        ·rename_i st1 fps hst
         split at h
         ·rename_i hok
          cases h
          exact draw_wp hA hrec his hS hF hst hok (fun a' w' κ' q1 q2 q3=>⟨rfl,κ',q1,q2,q3⟩)
         ·cases h
        ·cases h
 | seq x y ihx ihy =>
   intro ac st ex st' hc h A κ a w hS hF
   simp only [compileCode] at hc
   split at hc
   ·rename_i ax ay h1 h2
    cases hc
    simp only [F] at h
    cases hr:rec N ax st with
    | none=>rw [hr] at h;cases h
    | some r =>
      obtain⟨ex1,st1⟩:=r
      rw [hr] at h
      cases ex1 with
      | normal =>
        simp only at h
        refine wp_seq (wp_mono (hrec.sim N x ax st _ st1 h1 hr A κ a w hS hF) ?_)
        rintro e a' w' ⟨rfl,κ',k1,k2,k3⟩
        exact wp_mono (hrec.sim N y ay st1 _ st' h2 h A κ' a' w' k2 k3) fun e a w hp=>post_trans k1 hp
      | exit id =>
        cases h
        refine wp_seq (wp_mono (hrec.sim N x ax st _ _ h1 hr A κ a w hS hF) ?_)
        rintro e a' w' ⟨rfl,hp⟩
        exact⟨rfl,hp⟩
      | ret =>
        cases h
        refine wp_seq (wp_mono (hrec.sim N x ax st _ _ h1 hr A κ a w hS hF) ?_)
        rintro e a' w' ⟨rfl,hp⟩
        exact⟨rfl,hp⟩
   ·cases hc
 | cond c x y ihx ihy =>
   intro ac st ex st' hc h A κ a w hS hF
   simp only [compileCode] at hc
   split at hc
   ·rename_i co ax ay h1 h2 h3
    cases hc
    simp only [F] at h
    have ho:=hF.opd h1
    split at h
    ·rename_i hb
     rw [hb] at ho
     exact wp_cond_true ho (hrec.sim N x ax st _ st' h2 h A κ a w hS hF)
    ·rename_i hb
     rw [hb] at ho
     exact wp_cond_false ho (hrec.sim N y ay st _ st' h3 h A κ a w hS hF)
    ·cases h
   ·cases hc
 | block id x ih =>
   intro ac st ex st' hc h A κ a w hS hF
   simp only [compileCode] at hc
   cases hx:compileCode P x with
   | none=>simp [hx] at hc
   | some ax =>
     simp [hx] at hc;subst hc
     simp only [F] at h
     cases hr:rec N ax st with
     | none=>rw [hr] at h;cases h
     | some r =>
       obtain⟨ex1,st1⟩:=r
       rw [hr] at h
       refine wp_block (wp_mono (hrec.sim N x ax st _ st1 hx hr A κ a w hS hF) ?_)
       rintro e a' w' ⟨rfl,hp⟩
       cases ex1 with
       | normal=>cases h;exact⟨rfl,hp⟩
       | exit j =>
         simp only at h
         split at h
         ·rename_i hj
          cases h
          simp only [toExit,Exit.inBlock,hj,if_true]
          exact⟨rfl,hp⟩
         ·rename_i hj
          cases h
          simp only [toExit,Exit.inBlock,hj,if_false]
          exact⟨rfl,hp⟩
       | ret=>cases h;exact⟨rfl,hp⟩
 | loop x ih =>
   intro ac st ex st' hc h A κ a w hS hF
   simp only [compileCode] at hc
   cases hx:compileCode P x with
   | none=>simp [hx] at hc
   | some ax =>
     simp [hx] at hc;subst hc
     obtain⟨m,hm⟩:=sim_step hA hrec hloop N x ax st ex st' hx h
     exact wp_loop_rounds m (hm A κ a w hS hF)
 | rangeFunc f ps x y ihx ihy =>
   intro ac st ex st' hc h
   simp [compileCode] at hc;subst hc
   simp [F] at h
 | exit id =>
   intro ac st ex st' hc h A κ a w hS hF
   simp [compileCode] at hc;subst hc
   simp [F] at h;obtain⟨rfl,rfl⟩:=h
   exact wp_exit ⟨rfl,κ,.refl _ _,hS,hF⟩
 | scope x ih =>
   intro ac st ex st' hc h A κ a w hS hF
   simp only [compileCode] at hc
   refine wp_scope_straight (wp_mono (ih ac st ex st' hc h A κ a w hS hF) ?_)
   rintro e a' w' ⟨rfl,hp⟩
   cases ex<;>exact⟨rfl,hp⟩
 | goto l =>
   intro ac st ex st' hc h
   simp [compileCode] at hc;subst hc
   simp [F] at h
 | ret =>
   intro ac st ex st' hc h A κ a w hS hF
   simp [compileCode] at hc;subst hc
   simp [F] at h;obtain⟨rfl,rfl⟩:=h
   exact wp_ret ⟨rfl,κ,.refl _ _,hS,hF⟩
 | refuse s =>
   intro ac st ex st' hc h
   simp [compileCode] at hc;subst hc
   simp [F] at h
theorem AcU:∀ n,AeF P (exec AP n)∧SimLoop P (exec AP n)
 | 0=>⟨⟨fun N c ac st ex st' _ h=>by simp [exec] at h,fun N c st ex st' _ h=>by simp [exec] at h,fun D O N c st ex st' T h=>by simp [exec] at h⟩,fun N c ac st ex st' _ h=>by simp [exec] at h⟩
 | n+1 =>
   have ⟨h1,h2⟩:=AcU n
   ⟨sim_code hA h1 h2,sim_step hA h1 h2⟩
theorem call_sound {n f:Nat} {args:List AVal} {r:AVal} (h:AbF AP (exec AP n) f args=some r) {A:Nat→Prop} {w:World} (hAv:∀ c,A c→c<w.heap.size) (hg:GOk A w) {vs:List Value} (hv:RepV [] A w args vs) :
 Does P f vs.toArray w fun v w'=>Ext [] w [] w'∧Rep [] A w' r v:=by
 unfold AbF at h
 split at h
 ·rename_i r0 S1 hc
  split at h
  ·rename_i r' ids' hr
   cases h
   have hargs:RepV [] (Avoid A []) w args vs:=⟨hv.1,fun i a v ha hvv=>by
    have:=hv.2 i a v ha hvv
    have hp:Pres [] A w [] (Avoid A []) w:=⟨fun b e h=>by simp at h,Nat.le_refl _,fun c hc hl=>⟨fun h=>hc ((AdB c).1 h),rfl⟩,fun _ _ _ h=>h⟩
    exact AbD hp a v this⟩
   refine(Acn hA (AcU hA n).1 hc (Afo (A:=A) hAv hg) hargs).mono ?_
   rintro v w' ⟨κ1,⟨k1,_⟩,k2,k3⟩
   refine⟨⟨fun b e h=>by simp at h,k1.size,fun c hn hl=>⟨fun⟨b,x,h,_⟩=>by simp at h,(k1.keep c hn hl).2⟩,k1.shape,k1.env⟩,?_⟩
   exact(Ann (κ2:=[]) (T':=A) k2 (fun c hc h=>hc (.inl h)) _ _ _ _ _ hr (.inr fun b y hb hT=>(k2.av _ hT).2 ⟨b,y,hb,rfl⟩) k3).2
  ·cases h
 ·cases h
end
end Go.Eng
