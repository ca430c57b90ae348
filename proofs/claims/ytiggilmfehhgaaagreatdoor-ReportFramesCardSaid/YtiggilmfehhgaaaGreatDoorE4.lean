/- A part of the engine: a machine over abstract values, and the proof that the program does what it does; no condition. -/
import Derived.Test.YtiggilmfehhgaaaGreatDoorE3
import Derived.KernelRfl
import Derived.ProofKit
import Derived.Handed
set_option linter.unusedSectionVars false
set_option linter.unusedVariables false
set_option linter.unusedSimpArgs false
set_option linter.unnecessarySimpa false
namespace Go.Eng
open Go
variable [Inhabited GlobT]
def LeR (r r':Rec):Prop:=∀ N c st x,r N c st=some x→r' N c st=some x
section
variable {AP:AaB} {r r':Rec} (h:LeR r r')
def LeM {α:Type} (m m':RM α):Prop:=∀ S x,m.run S=some x→m'.run S=some x
theorem LeM.refl {α:Type} (m:RM α):LeM m m:=fun _ _ h=>h
theorem LeM.fail {α:Type} (m:RM α):LeM .fail m:=fun _ _ h=>by simp [RM.run] at h
theorem LeM.bind {α β:Type} {f f':α→RM β} (hf:∀ a,LeM (f a) (f' a)):∀ (m:RM α),LeM (m.bind f) (m.bind f')
 | .ok a,S,x,hx=>hf a S x hx
 | .fail,S,x,hx=>by simp [RM.bind,RM.run] at hx
 | .rd b k,S,x,hx=>by
   simp only [RM.bind,RM.run] at hx ⊢
   cases hb:S[b]? with
   | none=>rw [hb] at hx;simp at hx
   | some o =>
     cases o with
     | none=>rw [hb] at hx;simp at hx
     | some blk =>
       rw [hb] at hx
       simp only at hx ⊢
       cases hk:((k blk).bind f).run S with
       | none=>rw [hk] at hx;simp at hx
       | some y=>rw [hk] at hx;rw [LeM.bind hf (k blk) S y hk];exact hx
include h
theorem Ahu {f:Nat} {args:List AVal} {S:Store} {x:AVal × Store} (hx:callS AP r f args S=some x):callS AP r' f args S=some x:=by
 unfold callS at hx ⊢
 cases hf:AP.fn f with
 | none=>rw [hf] at hx;cases hx
 | some af =>
   rw [hf] at hx
   simp only at hx ⊢
   split at hx
   ·rename_i hl
    rw [if_pos hl]
    cases hr:r (max af.nargs af.N) af.body ⟨args,S⟩ with
    | none=>rw [hr] at hx;cases hx
    | some y=>rw [hr] at hx;rw [h _ _ _ _ hr];exact hx
   ·cases hx
theorem callI_le {f:Nat} {args:List AVal} {x:AVal} (hx:AbF AP r f args=some x):AbF AP r' f args=some x:=by
 unfold AbF at hx ⊢
 cases hc:callS AP r f args [] with
 | none=>rw [hc] at hx;cases hx
 | some y=>rw [hc] at hx;rw [Ahu h hc];exact hx
theorem callP_le {f:Nat} {args:List AVal} {x:AVal} (hx:callP AP r f args=some x):callP AP r' f args=some x:=by
 unfold callP at hx ⊢
 cases hp:AP.pure f with
 | none=>rw [hp] at hx;exact callI_le h hx
 | some g=>rw [hp] at hx;exact hx
theorem Alb {f:Nat} {x:AVal} (hx:Aeg AP r f x=true):Aeg AP r' f x=true:=by
 unfold Aeg at hx ⊢
 cases hc:callS AP r f [x] [] with
 | none=>rw [hc] at hx;cases hx
 | some y=>rw [hc] at hx;rw [Ahu h hc];exact hx
theorem semKeep_le (slot f:Nat) (args:List AVal):LeM (AhO AP r slot f args) (AhO AP r' slot f args):=by
 unfold AhO
 split
 ·intro S x hx
  split at hx
  ·rename_i hg
   simp only [Bool.and_eq_true] at hg
   rw [if_pos (by simp only [Bool.and_eq_true];exact⟨Alb h hg.1,Alb h hg.2⟩)]
   exact hx
  ·simp [RM.run] at hx
 ·refine LeM.bind (fun a=>?_) _
  split
  ·intro S x hx
   cases hc:callS AP r f a.1 (a.2.1.map some) with
   | none=>rw [hc] at hx;simp [RM.run] at hx
   | some y=>rw [hc] at hx;rw [Ahu h hc];exact hx
  ·exact .fail _
theorem freshR_le {f:Nat} {as:List AVal} (hx:Alc AP r f as=true):Alc AP r' f as=true:=by
 unfold Alc at hx ⊢
 cases hp:AP.pure f with
 | some g=>rw [hp] at hx;cases hx
 | none =>
   rw [hp] at hx
   cases hc:callS AP r f as [] with
   | none=>rw [hc] at hx;cases hx
   | some y=>rw [hc] at hx;rw [Ahu h hc];exact hx
theorem semCall_le (slot:Nat) (fv:AVal) (args:List AVal):LeM (AeH AP r slot fv args) (AeH AP r' slot fv args):=by
 unfold AeH
 split
 ·split
  ·exact .refl _
  ·split
   ·exact semKeep_le h _ _ _
   ·refine LeM.bind (fun a=>?_) _
    intro S x hx
    cases hc:callP AP r _ a with
    | none=>rw [hc] at hx;simp [RM.run] at hx
    | some y =>
      rw [hc] at hx
      rw [callP_le h hc]
      simp only at hx ⊢
      split at hx
      ·rename_i hcnd
       rw [if_pos (by
        rw [Bool.or_eq_true] at hcnd ⊢
        exact hcnd.imp id (freshR_le h))]
       exact hx
      ·simp [RM.run] at hx
 ·exact .refl _
theorem semX_le (slot:Nat) (ρ:AOpd→AVal) (op:AOp):LeM (semX AP r slot ρ op) (semX AP r' slot ρ op):=by
 cases op
 case call f args=>exact semCall_le h _ _ _
 all_goals exact .refl _
theorem dstep_le {N slot:Nat} {i:Aaq} {st:St} {x:St × FP} (hx:Acu AP r N slot i st=some x):Acu AP r' N slot i st=some x:=by
 unfold Acu at hx ⊢
 split at hx
 ·rename_i hN
  rw [if_pos hN]
  split at hx
  ·cases hx
  ·exact hx
  ·cases hsh:isShare AP st.fr i.op with
   | some fa =>
     obtain⟨f,as⟩:=fa
     rw [hsh] at hx
     simp only at hx ⊢
     cases hc:callS AP r f as st.S with
     | none=>rw [hc] at hx;cases hx
     | some y=>rw [hc] at hx;rw [Ahu h hc];exact hx
   | none =>
     rw [hsh] at hx
     simp only at hx ⊢
     cases hr:(semX AP r slot (opd st.fr) i.op).run st.S with
     | none=>rw [hr] at hx;cases hx
     | some y=>rw [hr] at hx;rw [semX_le h _ _ _ _ _ hr];exact hx
 ·cases hx
theorem step1_le {N:Nat} {i:Aaq} {st:St} {x:St} (hx:step1 AP r N i st=some x):step1 AP r' N i st=some x:=by
 unfold step1 at hx ⊢
 cases hsg:sharesG AP st i with
 | none=>rw [hsg] at hx;cases hx
 | some o =>
   rw [hsg] at hx
   cases o with
   | some fa =>
     obtain⟨f,as⟩:=fa
     simp only at hx ⊢
     split at hx
     ·rename_i hN
      rw [if_pos hN]
      cases hc:callS AP r f as st.S with
      | none=>rw [hc] at hx;cases hx
      | some y=>rw [hc] at hx;rw [Ahu h hc];exact hx
     ·cases hx
   | none =>
     simp only at hx ⊢
     cases hn:noted N i st with
     | some st1=>rw [hn] at hx;exact hx
     | none =>
       rw [hn] at hx
       simp only at hx ⊢
       split at hx
       ·rename_i hc
        cases hx
        split at hc
        ·rename_i ha;rw [if_pos ha,dstep_le h hc]
        ·rename_i ha;rw [if_neg ha,dstep_le h hc]
       ·cases hx
theorem stepL_le {N:Nat}:∀ {l:List Aaq} {st x:St},stepL AP r N l st=some x→stepL AP r' N l st=some x
 | [],_,_,hx=>hx
 | i::l,st,x,hx=>by
   unfold stepL at hx ⊢
   cases hs:step1 AP r N i st with
   | none=>rw [hs] at hx;cases hx
   | some y=>rw [hs] at hx;rw [step1_le h hs];exact stepL_le hx
theorem drawL_le {N:Nat}:∀ {l:List (Aaq × Nat)} {st:St} {x:St × List FP},AcD AP r N l st=some x→AcD AP r' N l st=some x
 | [],_,_,hx=>hx
 | y::l,st,x,hx=>by
   obtain⟨st',fps⟩:=x
   obtain⟨st1,fp,q,g1,g2,g3⟩:=Afj hx
   subst g3
   exact drawL_mk (dstep_le h g1) (drawL_le g2)
theorem runSeg_le {N s:Nat} {l:List Aaq} {st x:St} (hx:Agj AP r N s l st=some x):Agj AP r' N s l st=some x:=by
 unfold Agj at hx ⊢
 split at hx
 ·exact step1_le h hx
 ·split at hx
  ·rename_i hd
   rw [drawL_le h hd]
   exact hx
  ·cases hx
theorem runSegs_le {N:Nat}:∀ {ss:List (List Aaq)} {s:Nat} {st x:St},AbS AP r N s ss st=some x→AbS AP r' N s ss st=some x
 | [],_,_,_,hx=>hx
 | l::ss,s,st,x,hx=>by
   unfold AbS at hx ⊢
   split at hx
   ·rename_i y hy
    rw [runSeg_le h hy]
    exact runSegs_le hx
   ·cases hx
theorem F_le:LeR (F AP r) (F AP r'):=by
 intro N c st x hx
 cases c with
 | bad=>exact hx
 | skip=>exact hx
 | ret=>exact hx
 | exit id=>exact hx
 | ops l =>
   simp only [F] at hx ⊢
   cases hs:stepL AP r N l st with
   | none=>rw [hs] at hx;cases hx
   | some y=>rw [hs] at hx;rw [stepL_le h hs];exact hx
 | draw l =>
   simp only [F] at hx ⊢
   split at hx
   ·rename_i st1 fps hs
    rw [drawL_le h hs];exact hx
   ·cases hx
 | drawS ss =>
   simp only [F] at hx ⊢
   split at hx
   ·rename_i st1 hs
    rw [runSegs_le h hs];exact hx
   ·cases hx
 | seq a b =>
   simp only [F] at hx ⊢
   cases hs:r N a st with
   | none=>rw [hs] at hx;cases hx
   | some y =>
     obtain⟨ex,st1⟩:=y
     rw [hs] at hx;rw [h _ _ _ _ hs]
     cases ex<;>first | exact h _ _ _ _ hx | exact hx
 | cond c a b =>
   simp only [F] at hx ⊢
   split at hx
   ·exact h _ _ _ _ hx
   ·exact h _ _ _ _ hx
   ·cases hx
 | block id a =>
   simp only [F] at hx ⊢
   cases hs:r N a st with
   | none=>rw [hs] at hx;cases hx
   | some y=>rw [hs] at hx;rw [h _ _ _ _ hs];exact hx
 | loop a =>
   simp only [F] at hx ⊢
   cases hs:r N a st with
   | none=>rw [hs] at hx;cases hx
   | some y =>
     obtain⟨ex,st1⟩:=y
     rw [hs] at hx;rw [h _ _ _ _ hs]
     cases ex<;>first | exact h _ _ _ _ hx | exact hx
end
theorem exec_le {AP:AaB}:∀ (n m:Nat),n≤m→LeR (exec AP n) (exec AP m)
 | 0,_,_=>fun N c st x hx=>by simp [exec] at hx
 | n+1,0,h=>absurd h (by omega)
 | n+1,m+1,h=>F_le (exec_le n m (by omega))
def Aaz (AP:AaB) (f:Nat) (args:List AVal) (r:AVal):Prop:=∃ n0,∀ n,n0≤n→callP AP (exec AP n) f args=some r
theorem AlU {AP:AaB} {rec:Rec} {f:Nat} {args:List AVal} (hp:AP.pure f=none):callP AP rec f args=AbF AP rec f args:=by
 unfold callP;rw [hp]
theorem AlT {AP:AaB} {f:Nat} {args:List AVal} {r:AVal} (n:Nat) (h:callP AP (exec AP n) f args=some r):Aaz AP f args r :=
 ⟨n,fun m hm=>callP_le (exec_le n m hm) h⟩
theorem Afl {AP:AaB} {f:Nat} {args:List AVal} {r:AVal} {g:List AVal→Option AVal} (hp:AP.pure f=some g) (h:g args=some r):Aaz AP f args r :=
 ⟨0,fun m _=>by unfold callP;rw [hp];exact h⟩
theorem callR_I {AP:AaB} {f:Nat} {args:List AVal} {r:AVal} (h:Aaz AP f args r) (hp:AP.pure f=none):∃ n,AbF AP (exec AP n) f args=some r:=by
 obtain⟨n,h⟩:=h
 exact⟨n,by rw [←AlU hp];exact h n (Nat.le_refl _)⟩
theorem bind_mk {α β:Type}:∀ {m:RM α} {f:α→RM β} {S:Store} {a:α} {b:β} {l l':List Nat},m.run S=some (a,l)→(f a).run S=some (b,l')→(m.bind f).run S=some (b,l++l')
 | .ok c,f,S,a,b,l,l',h,h'=>by simp [RM.run] at h;obtain⟨rfl,rfl⟩:=h;exact h'
 | .fail,f,S,a,b,l,l',h,h'=>by simp [RM.run] at h
 | .rd c k,f,S,a,b,l,l',h,h'=>by
   obtain⟨blk,l1,g1,g2,g3⟩:=AaR h
   simp only at g3 g2
   subst g3
   simp only [RM.bind,RM.run,g1,bind_mk g2 h',List.cons_append]
theorem LeM.bind2 {α β:Type} {f f':α→RM β} {m m':RM α} (hm:LeM m m') (hf:∀ a,LeM (f a) (f' a)):LeM (m.bind f) (m'.bind f'):=by
 intro S x hx
 obtain⟨y,l,l',h1,h2,h3⟩:=run_bind hx
 obtain⟨b,l2⟩:=x
 simp only at h2 h3
 subst h3
 exact bind_mk (hm S _ h1) (hf y S _ h2)
theorem LeM.mapL {α β:Type} {f f':α→RM β} (hf:∀ a,LeM (f a) (f' a)):∀ (l:List α),LeM (RM.mapL f l) (RM.mapL f' l)
 | [] => .refl _
 | x::l=>by
   simp only [RM.mapL]
   exact LeM.bind2 (hf x) fun y=>LeM.bind2 (LeM.mapL hf l) fun _ => .refl _
theorem LeM.rd {α:Type} {b:Nat} {k k':ABlock→RM α} (hk:∀ x,LeM (k x) (k' x)):LeM (.rd b k) (.rd b k'):=by
 intro S x hx
 obtain⟨blk,l,g1,g2,g3⟩:=AaR hx
 obtain⟨a,l2⟩:=x
 simp only at g2 g3
 subst g3
 simp only [RM.run,g1,hk blk S _ g2]
theorem frz_le:∀ (n:Nat) (v:AVal),LeM (frz n v) (frzP n v)
 | 0,v=>by
   show LeM (frzG false 0 v) (frzG true 0 v)
   unfold frzG
   split
   ·exact .refl _
   ·exact .fail _
 | n+1,v=>by
   show LeM (frzG false (n+1) v) (frzG true (n+1) v)
   have ih:=frz_le n
   have ihL:=fun l=>LeM.mapL ih l
   have ihLL:=fun l=>LeM.mapL (fun l=>LeM.mapL ih l) l
   unfold frzG
   split
   ·exact .refl _
   ·cases v<;>simp only<;>first
     | exact .refl _
     | exact .fail _
     | exact LeM.bind2 (ihLL _) fun _ => .refl _
     | exact LeM.bind2 (ihL _) fun _ => .refl _
     | exact LeM.bind2 (ih _) fun _ => .refl _
     | exact LeM.bind2 (ihL _) fun _=>LeM.bind2 (ihL _) fun _ => .refl _
     | skip
    ·exact LeM.rd fun x=>by
      split
      ·exact LeM.bind2 (ihLL _) fun _ => .refl _
      ·exact .fail _
theorem frz_P {n:Nat} {v v':AVal} {S:Store} {ids:List Nat} (h:(frz n v).run S=some (v',ids)):(frzP n v).run S=some (v',ids):=frz_le n v S _ h
theorem frzL_P {n:Nat} {l l':List AVal} {S:Store} {ids:List Nat} (h:(RM.mapL (frz n) l).run S=some (l',ids)):(RM.mapL (frzP n) l).run S=some (l',ids):=LeM.mapL (frz_le n) l S _ h
end Go.Eng
namespace Go.Eng
open Go
variable [Inhabited GlobT]
def Ev {α:Type} (f:Nat→Option α) (r:α):Prop:=∃ n0,∀ n,n0≤n→f n=some r
theorem Ev.const {α:Type} {x:Option α} {r:α} (h:x=some r):Ev (fun _=>x) r:=⟨0,fun _ _=>h⟩
theorem Ev.bind {α β γ:Type} {f:Nat→Option α} {a:α} {g:Nat→Option β} {b:β} (hf:Ev f a) (hg:Ev g b) {k:Nat→Option γ} {c:γ} (hk:∀ n,f n=some a→g n=some b→k n=some c):Ev k c:=by
 obtain⟨n,hn⟩:=hf
 obtain⟨m,hm⟩:=hg
 exact⟨max n m,fun l hl=>hk l (hn l (by omega)) (hm l (by omega))⟩
theorem Ev.map {α β:Type} {f:Nat→Option α} {a:α} {b:β} (hf:Ev f a) {k:Nat→Option β} (hk:∀ n,f n=some a→k n=some b):Ev k b:=by
 obtain⟨n,hn⟩:=hf
 exact⟨n,fun l hl=>hk l (hn l hl)⟩
theorem Ev.shift {α:Type} {k:Nat→Option α} {b:α} (h:Ev (fun n=>k (n+1)) b):Ev k b:=by
 obtain⟨n,hn⟩:=h
 refine⟨n+1,fun l hl=>?_⟩
 obtain⟨l,rfl⟩:∃ m,l=m+1:=⟨l - 1,by omega⟩
 exact hn l (by omega)
abbrev FM:=List (Nat × AVal)
def lkp:FM→Nat→Option AVal
 | [],_=>none
 | (k,v)::m,n=>match Nat.beq k n with
   | true=>some v
   | false=>lkp m n
def lo (m:FM):AOpd→Option AVal
 | .t n=>lkp m n
 | .c v=>some v
def los (m:FM):List AOpd→Option (List AVal)
 | []=>some []
 | x::xs=>match lo m x,los m xs with
   | some v,some vs=>some (v::vs)
   | _,_=>none
def Fr (fr:List AVal) (m:FM):Prop:=∀ n v,lkp m n=some v→get fr n=v
def Wk (m m0:FM):Prop:=∀ n v,lkp m0 n=some v→lkp m n=some v
theorem Wk.refl (m:FM):Wk m m:=fun _ _ h=>h
theorem Aan {m:FM}:Wk m []:=fun _ _ h=>by cases h
theorem Aah {m m0:FM} {k:Nat} {v:AVal} (h:lkp m k=some v) (hr:Wk m m0):Wk m ((k,v)::m0):=by
 intro n u hu
 unfold lkp at hu
 split at hu
 ·rename_i hb;cases hu;rw [←Nat.eq_of_beq_eq_true hb];exact h
 ·exact hr n u hu
theorem Fr.wk {fr:List AVal} {m m0:FM} (h:Fr fr m) (hw:Wk m m0):Fr fr m0:=fun n v hv=>h n v (hw n v hv)
def putM (m:FM):Option Nat→AVal→FM
 | some d,v=>(d,v)::m
 | none,_=>m
theorem Fr.put {fr:List AVal} {m:FM} (h:Fr fr m) (d:Nat) (v:AVal):Fr (put fr d v) ((d,v)::m):=by
 intro n u hu
 rw [Afv]
 unfold lkp at hu
 split at hu
 ·rename_i hb;cases hu;rw [if_pos (Nat.eq_of_beq_eq_true hb).symm]
 ·rename_i hb;rw [if_neg (fun e=>by subst e;simp at hb)];exact h n u hu
theorem Fr.putO {fr:List AVal} {m:FM} (h:Fr fr m) (d:Option Nat) (v:AVal):Fr (putO fr d v) (putM m d v):=by
 cases d with
 | none=>exact h
 | some d=>exact h.put d v
theorem Fr.opd {fr:List AVal} {m:FM} (h:Fr fr m) {x:AOpd} {v:AVal} (hx:lo m x=some v):opd fr x=v:=by
 cases x with
 | t n=>exact h n v hx
 | c u=>simp only [lo] at hx;cases hx;rfl
theorem Fr.opds {fr:List AVal} {m:FM} (h:Fr fr m):∀ {xs:List AOpd} {vs:List AVal},los m xs=some vs→xs.map (Eng.opd fr)=vs
 | [],_,hx=>by simp only [los] at hx;cases hx;rfl
 | x::xs,vs,hx=>by
   simp only [los] at hx
   split at hx
   ·rename_i v us h1 h2
    cases hx
    rw [List.map_cons,h.opd h1,h.opds h2]
   ·cases hx
def gd (m:FM):Option (Nat × Bool)→Option Bool
 | none=>some true
 | some (t,want)=>match lkp m t with
   | some (.bool b)=>some (b == want)
   | some (.tuple [])=>some false
   | _=>none
theorem Fr.gd {fr:List AVal} {m:FM} (h:Fr fr m) {g:Option (Nat × Bool)} {b:Bool} (hg:gd m g=some b):wanted fr g=some b:=by
 cases g with
 | none=>exact hg
 | some tw =>
   obtain⟨t,w⟩:=tw
   simp only [Eng.gd] at hg
   unfold wanted
   simp only
   split at hg
   ·rename_i c hc;rw [h t _ hc];exact hg
   ·rename_i hc;rw [h t _ hc];exact hg
   ·cases hg
def initM:Nat→List AVal→FM
 | _,[]=>[]
 | k,v::vs=>(k,v)::initM (k+1) vs
theorem initM_get:∀ (vs:List AVal) (k n:Nat) (v:AVal),lkp (initM k vs) n=some v→k≤n∧get vs (n - k)=v
 | [],_,_,_,h=>by cases h
 | x::vs,k,n,v,h=>by
   unfold initM lkp at h
   split at h
   ·rename_i hb
    cases h
    have:=Nat.eq_of_beq_eq_true hb
    subst this
    exact⟨Nat.le_refl _,by simp [get]⟩
   ·rename_i hb
    obtain⟨h1,h2⟩:=initM_get vs (k+1) n v h
    refine⟨by omega,?_⟩
    obtain⟨j,rfl⟩:∃ j,n=k+1+j:=⟨n - (k+1),by omega⟩
    rw [show k+1+j - k=j+1 by omega]
    rw [show k+1+j - (k+1)=j by omega] at h2
    exact h2
theorem AjX (vs:List AVal):Fr vs (initM 0 vs):=fun n v h=>by
 have:=(initM_get vs 0 n v h).2
 simpa using this
theorem lkp_end {m:FM} {k n:Nat} {u v:AVal} (h:lkp (m++[(k,u)]) n=some v):lkp m n=some v∨(n=k∧v=u):=by
 induction m with
 | nil =>
   simp only [List.nil_append,lkp] at h
   split at h
   ·rename_i hb;cases h;exact .inr ⟨(Nat.eq_of_beq_eq_true hb).symm,rfl⟩
   ·cases h
 | cons p m ih =>
   obtain⟨a,b⟩:=p
   simp only [List.cons_append,lkp] at h ⊢
   split at h
   ·exact .inl h
   ·exact ih h
theorem fr_end {l:List AVal} {m:FM} {k:Nat} (hk:l.length≤k) (h:Fr l m):Fr l (m++[(k,.undef)]):=by
 intro n v hv
 rcases lkp_end hv with h' | ⟨rfl,rfl⟩
 ·exact h n v h'
 ·exact AlN _ _ hk
section
variable {AP:AaB} {N:Nat}
def TL (AP:AaB) (N:Nat) (l:List Aaq) (m:FM) (S:Store) (K:FM→Store→Prop):Prop :=
 ∀ fr,Fr fr m→∃ fr' m' S',Fr fr' m'∧K m' S'∧Ev (fun n=>stepL AP (exec AP n) N l ⟨fr,S⟩) ⟨fr',S'⟩
def TD (AP:AaB) (N:Nat) (l:List (Aaq × Nat)) (m:FM) (S:Store) (K:FM→Store→List FP→Prop):Prop :=
 ∀ fr,Fr fr m→∃ fr' m' S' fps,Fr fr' m'∧K m' S' fps∧Ev (fun n=>AcD AP (exec AP n) N l ⟨fr,S⟩) (⟨fr',S'⟩,fps)
def TC (AP:AaB) (N:Nat) (c:Aaj) (m:FM) (S:Store) (Q:AbV→FM→Store→Prop):Prop :=
 ∀ fr,Fr fr m→∃ ex fr' m' S',Fr fr' m'∧Q ex m' S'∧Ev (fun n=>exec AP n N c ⟨fr,S⟩) (ex,⟨fr',S'⟩)
def OpR (AP:AaB) (m:FM) (slot:Nat) (S:Store) (op:AOp) (v:AVal) (S':Store) (fp:FP):Prop :=
 ∀ fr,Fr fr m→∃ e:Eff,Ev (fun n=>(semX AP (exec AP n) slot (opd fr) op).run S) (e,fp.1)∧e.val=v∧effS slot e S=S'∧effIds slot e=fp.2
theorem TC.weaken {c:Aaj} {m m0:FM} {S:Store} {Q:AbV→FM→Store→Prop} (hw:Wk m m0) (h:TC AP N c m0 S Q):TC AP N c m S Q:=fun fr hfr=>h fr (hfr.wk hw)
theorem TL.weaken {l:List Aaq} {m m0:FM} {S:Store} {K:FM→Store→Prop} (hw:Wk m m0) (h:TL AP N l m0 S K):TL AP N l m S K:=fun fr hfr=>h fr (hfr.wk hw)
theorem TC.mono {c:Aaj} {m:FM} {S:Store} {Q Q':AbV→FM→Store→Prop} (h:TC AP N c m S Q) (hq:∀ ex m S,Q ex m S→Q' ex m S):TC AP N c m S Q':=fun fr hfr=>by
 obtain⟨ex,fr',m',S',h1,h2,h3⟩:=h fr hfr
 exact⟨ex,fr',m',S',h1,hq _ _ _ h2,h3⟩
theorem Aao {m:FM} {S:Store} {Q:AbV→FM→Store→Prop} (h:Q .normal m S):TC AP N .skip m S Q:=fun fr hfr =>
 ⟨_,fr,m,S,hfr,h,Ev.shift (Ev.const rfl)⟩
theorem AaD {m:FM} {S:Store} {Q:AbV→FM→Store→Prop} (h:Q .ret m S):TC AP N .ret m S Q:=fun fr hfr =>
 ⟨_,fr,m,S,hfr,h,Ev.shift (Ev.const rfl)⟩
theorem AaA {id:Nat} {m:FM} {S:Store} {Q:AbV→FM→Store→Prop} (h:Q (.exit id) m S):TC AP N (.exit id) m S Q:=fun fr hfr =>
 ⟨_,fr,m,S,hfr,h,Ev.shift (Ev.const rfl)⟩
theorem Aad {l:List Aaq} {m:FM} {S:Store} {Q:AbV→FM→Store→Prop} (h:TL AP N l m S (Q .normal)):TC AP N (.ops l) m S Q:=fun fr hfr=>by
 obtain⟨fr',m',S',h1,h2,h3⟩:=h fr hfr
 refine⟨_,fr',m',S',h1,h2,Ev.shift (h3.map fun n hn=>?_)⟩
 simp only [exec,F,hn]
theorem Aab {a b:Aaj} {m:FM} {S:Store} {Q:AbV→FM→Store→Prop} (h:TC AP N a m S fun ex m' S'=>match ex with | .normal=>TC AP N b m' S' Q | ex=>Q ex m' S'):TC AP N (.seq a b) m S Q:=fun fr hfr=>by
 obtain⟨ex,fr',m',S',h1,h2,h3⟩:=h fr hfr
 cases ex with
 | normal =>
   obtain⟨ex,fr2,m2,S2,g1,g2,g3⟩:=h2 fr' h1
   refine⟨ex,fr2,m2,S2,g1,g2,Ev.shift (h3.bind g3 fun n hn hm=>?_)⟩
   simp only [exec,F,hn,hm]
 | exit id =>
   refine⟨_,fr',m',S',h1,h2,Ev.shift (h3.map fun n hn=>?_)⟩
   simp only [exec,F,hn]
 | ret =>
   refine⟨_,fr',m',S',h1,h2,Ev.shift (h3.map fun n hn=>?_)⟩
   simp only [exec,F,hn]
theorem AaI {c:AOpd} {a b:Aaj} {m:FM} {S:Store} {Q:AbV→FM→Store→Prop} {t:Bool} (hc:lo m c=some (.bool t)) (h1:t=true→TC AP N a m S Q) (h2:t=false→TC AP N b m S Q):TC AP N (.cond c a b) m S Q:=fun fr hfr=>by
 have ho:=hfr.opd hc
 cases t with
 | true =>
   obtain⟨ex,fr',m',S',g1,g2,g3⟩:=h1 rfl fr hfr
   refine⟨ex,fr',m',S',g1,g2,Ev.shift (g3.map fun n hn=>?_)⟩
   simp only [exec,F,ho,hn]
 | false =>
   obtain⟨ex,fr',m',S',g1,g2,g3⟩:=h2 rfl fr hfr
   refine⟨ex,fr',m',S',g1,g2,Ev.shift (g3.map fun n hn=>?_)⟩
   simp only [exec,F,ho,hn]
theorem Aak {id:Nat} {a:Aaj} {m:FM} {S:Store} {Q:AbV→FM→Store→Prop} (h:TC AP N a m S fun ex m' S'=>match ex with | .exit j=>if j=id then Q .normal m' S' else Q (.exit j) m' S' | ex=>Q ex m' S'):TC AP N (.block id a) m S Q:=fun fr hfr=>by
 obtain⟨ex,fr',m',S',h1,h2,h3⟩:=h fr hfr
 cases ex with
 | normal =>
   refine⟨_,fr',m',S',h1,h2,Ev.shift (h3.map fun n hn=>?_)⟩
   simp only [exec,F,hn]
 | ret =>
   refine⟨_,fr',m',S',h1,h2,Ev.shift (h3.map fun n hn=>?_)⟩
   simp only [exec,F,hn]
 | exit j =>
   simp only at h2
   by_cases hj:j=id
   ·rw [if_pos hj] at h2
    refine⟨_,fr',m',S',h1,h2,Ev.shift (h3.map fun n hn=>?_)⟩
    simp only [exec,F,hn,if_pos hj]
   ·rw [if_neg hj] at h2
    refine⟨_,fr',m',S',h1,h2,Ev.shift (h3.map fun n hn=>?_)⟩
    simp only [exec,F,hn,if_neg hj]
theorem tc_loop {c:Aaj} {Q:AbV→FM→Store→Prop} {Inv:Nat→FM→Store→Prop}
 (hb:∀ k m S,Inv k m S→TC AP N c m S fun ex m' S'=>match ex with | .normal=>∃ k' m0,k'<k∧Wk m' m0∧Inv k' m0 S' | ex=>Q ex m' S') :
 ∀ k m S,Inv k m S→TC AP N (.loop c) m S Q:=by
 intro k
 induction k using Nat.strongRecOn with
 | ind k ih =>
   intro m S hi fr hfr
   obtain⟨ex,fr',m',S',h1,h2,h3⟩:=hb k m S hi fr hfr
   cases ex with
   | normal =>
     obtain⟨k',m0,q1,q2,q3⟩:=h2
     obtain⟨ex,fr2,m2,S2,g1,g2,g3⟩:=ih k' q1 m0 S' q3 fr' (h1.wk q2)
     refine⟨ex,fr2,m2,S2,g1,g2,Ev.shift (h3.bind g3 fun n hn hm=>?_)⟩
     simp only [exec,F,hn,hm]
   | exit id =>
     refine⟨_,fr',m',S',h1,h2,Ev.shift (h3.map fun n hn=>?_)⟩
     simp only [exec,F,hn]
   | ret =>
     refine⟨_,fr',m',S',h1,h2,Ev.shift (h3.map fun n hn=>?_)⟩
     simp only [exec,F,hn]
theorem Aac {m:FM} {S:Store} {K:FM→Store→Prop} (h:K m S):TL AP N [] m S K:=fun fr hfr=>⟨fr,m,S,hfr,h,Ev.const rfl⟩
def isCallO:AOp→Bool
 | .call .. => true
 | .deferC .. => true
 | _=>false
theorem allocsA_no {o:AOp} (h:isCallO o=false):allocsA AP o=allocs o:=by
 cases o<;>first | rfl | simp [isCallO] at h
theorem shares_no {st:St} {o:AOp} (h:isCallO o=false):AhG AP st o=some none:=by
 cases o<;>first | rfl | simp [isCallO] at h
theorem Ahn {fr:List AVal} {o:AOp} (h:isCallO o=false):isShare AP fr o=none:=by
 cases o<;>first | rfl | simp [isCallO] at h
theorem noted_no {N:Nat} {i:Aaq} {st:St} (h:isCallO i.op=false):noted N i st=none:=by
 obtain⟨d,o,g,u⟩:=i
 cases o<;>first | rfl | simp [isCallO] at h
theorem noted_off {N:Nat} {d:Option Nat} {op:AOp} {g:Option (Nat × Bool)} {un:List Nat} {st:St} {m:FM} (hg:gd m g=some false):noted N ⟨d,op,g,un⟩ st=none:=by
 cases g with
 | none=>cases hg
 | some g=>cases op<;>first | rfl | (cases d<;>rfl)
theorem Ahd {st:St} {i:Aaq} (h:wanted st.fr i.guard=some true):sharesG AP st i=AhG AP st i.op:=by simp only [sharesG,h]
theorem Amk {st:St} {i:Aaq} (h:wanted st.fr i.guard=some false):sharesG AP st i=some none:=by simp only [sharesG,h]
theorem Agw {fr:List AVal} {fo:AOpd} {args:List AOpd} {f:Nat} {first cap:List AVal} (hf:opd fr fo = .fn (.func f) first cap) (hs:AP.share f=false):isShare AP fr (.call fo args)=none:=by
 simp only [isShare,fvOf,hf,hs]
 split
 ·rfl
 ·split<;>rfl
theorem Ala {fr:List AVal} {fo:AOpd} {args:List AOpd} {f:Nat} {first cap:List AVal} (hf:opd fr fo = .fn (.func f) first cap) (hs:(AP.prim f).isSome=true∨AP.keep f=true∨AP.split f=true∨(AP.pure f).isSome=true):isShare AP fr (.call fo args)=none:=by
 simp only [isShare,fvOf,hf]
 split
 ·rfl
 ·rename_i h
  rw [h] at hs
  rcases hs with hs | hs | hs | hs
  ·cases hs
  all_goals rw [hs];simp
theorem noted_call {N:Nat} {d:Option Nat} {fo:AOpd} {args:List AOpd} {g:Option (Nat × Bool)} {un:List Nat} {st:St}:noted N ⟨d,.call fo args,g,un⟩ st=none:=rfl
theorem tl_op {d:Option Nat} {op:AOp} {g:Option (Nat × Bool)} {un:List Nat} {l:List Aaq} {m:FM} {S S':Store} {v:AVal} {fp:FP} {K:FM→Store→Prop}
 (hd:(d.all fun d=>d<N)=true) (hg:gd m g=some true) (hc:isCallO op=false)
 (h:if allocs op=true then OpR AP m S.length (S++[none]) op v S' fp else OpR AP m S.length S op v S' fp) (hk:TL AP N l (putM m d v) S' K):TL AP N (⟨d,op,g,un⟩::l) m S K:=fun fr hfr=>by
 have hg':=hfr.gd hg
 obtain⟨fr',m',S'',k1,k2,k3⟩:=hk _ (hfr.putO d v)
 refine⟨fr',m',S'',k1,k2,?_⟩
 have haa:allocsA AP op=allocs op:=allocsA_no hc
 cases ha:allocs op with
 | true =>
   rw [ha] at h
   simp only [if_true] at h
   obtain⟨e,h1,rfl,rfl,h4⟩:=h fr hfr
   refine h1.bind k3 fun n hn hm=>?_
   have e1:sharesG AP ⟨fr,S⟩ ⟨d,op,g,un⟩=some none:=(Ahd hg').trans (shares_no hc)
   simp only [stepL,step1,hg',e1,noted_no (i:=⟨d,op,g,un⟩) hc,Ahn hc,haa,ha,if_true,Acu,hd,hn,hm]
 | false =>
   rw [ha] at h
   simp only [Bool.false_eq_true,if_false] at h
   obtain⟨e,h1,rfl,rfl,h4⟩:=h fr hfr
   refine h1.bind k3 fun n hn hm=>?_
   have e1:sharesG AP ⟨fr,S⟩ ⟨d,op,g,un⟩=some none:=(Ahd hg').trans (shares_no hc)
   simp only [stepL,step1,hg',e1,noted_no (i:=⟨d,op,g,un⟩) hc,Ahn hc,haa,ha,Bool.false_eq_true,if_false,if_true,Acu,hd,hn,hm]
theorem tl_off {d:Option Nat} {op:AOp} {g:Option (Nat × Bool)} {un:List Nat} {l:List Aaq} {m:FM} {S:Store} {K:FM→Store→Prop}
 (hd:(d.all fun d=>d<N)=true) (hg:gd m g=some false)
 (hk:TL AP N l (putM m d (.tuple [])) (if allocsA AP op=true then S++[none] else S) K):TL AP N (⟨d,op,g,un⟩::l) m S K:=fun fr hfr=>by
 have hg':=hfr.gd hg
 obtain⟨fr',m',S'',k1,k2,k3⟩:=hk _ (hfr.putO d _)
 refine⟨fr',m',S'',k1,k2,?_⟩
 cases ha:allocsA AP op with
 | true =>
   rw [ha] at k3
   simp only [if_true] at k3
   refine k3.map fun n hm=>?_
   have e1:sharesG AP ⟨fr,S⟩ ⟨d,op,g,un⟩=some none:=Amk hg'
   simp only [stepL,step1,hg',e1,noted_off hg,ha,if_true,Acu,hd,hm]
 | false =>
   rw [ha] at k3
   simp only [Bool.false_eq_true,if_false] at k3
   refine k3.map fun n hm=>?_
   have e1:sharesG AP ⟨fr,S⟩ ⟨d,op,g,un⟩=some none:=Amk hg'
   simp only [stepL,step1,hg',e1,noted_off hg,ha,Bool.false_eq_true,if_false,if_true,Acu,hd,hm]
theorem AlD {d:Option Nat} {fo:AOpd} {args:List AOpd} {f:Nat} {first cap as as':List AVal} {g:Option (Nat × Bool)} {un:List Nat} {l:List Aaq} {m:FM} {S:Store} {r:AVal} {ids:List Nat} {K:FM→Store→Prop}
 (hd:(d.all fun d=>d<N)=true) (hg:gd m g=some true) (hf:lo m fo=some (.fn (.func f) first cap)) (ha:los m args=some as) (hp:AP.prim f=none) (hke:AP.keep f=false)
 (hz:(RM.mapL (frzP AaM) (first++as++cap)).run S=some (as',ids)) (hns:(AP.split f || (AP.pure f).isSome)=true∨∃ z,(RM.mapL (frz AaM) (first++as++cap)).run S=some z) (hr:Aaz AP f as' r) (hfl:(norefL (first++as++cap) || r.flat)=true)
 (hk:TL AP N l (putM m d r) S K) (hal:allocsA AP (.call fo args)=false) (hshr:(AP.share f && !(AP.pure f).isSome)=false:=by rfl):TL AP N (⟨d,.call fo args,g,un⟩::l) m S K:=fun fr hfr=>by
 have hg':=hfr.gd hg
 obtain⟨fr',m',S'',k1,k2,k3⟩:=hk _ (hfr.putO d r)
 refine⟨fr',m',S'',k1,k2,?_⟩
 have hr':Ev (fun n=>callP AP (exec AP n) f as') r:=hr
 refine hr'.bind k3 fun n hn hm=>?_
 have hsem:(semX AP (exec AP n) S.length (opd fr) (.call fo args)).run S=some (⟨r,none,[]⟩,ids):=by
  simp only [semX,hfr.opd hf,hfr.opds ha,AeH,hp,hke]
  have hb:∀ {α β:Type} (m:RM α) (f:α→RM β) (S:Store) (a:α) (ids:List Nat) (y:β),m.run S=some (a,ids)→(f a).run S=some (y,[])→(m.bind f).run S=some (y,ids):=by
   intro α β m
   induction m with
   | ok a=>intro f S b ids y h hy;simp [RM.run] at h;obtain⟨rfl,rfl⟩:=h;exact hy
   | fail=>intro f S a ids y h;simp [RM.run] at h
   | rd c k ih =>
     intro f S a ids y h hy
     obtain⟨blk,l,g1,g2,g3⟩:=AaR h
     simp only at g3 g2
     subst g3
     simp only [RM.bind,RM.run,g1,ih blk f S a l y g2 hy]
  simp only [Bool.false_eq_true,if_false]
  refine hb _ _ _ _ _ _ hz ?_
  simp only [hn,hfl,Bool.true_or,if_true,RM.run]
 have hsh:sharesG AP ⟨fr,S⟩ ⟨d,.call fo args,g,un⟩=some none:=by
  rw [Ahd hg']
  simp only [AhG,fvOf,hfr.opd hf,hfr.opds ha,hp,hke,Bool.false_or,Bool.false_eq_true,if_false]
  rcases hns with h | ⟨z,h⟩
  ·rw [h,if_pos rfl]
  ·rw [Amr h]
   split
   ·rfl
   ·rename_i hq
    have:AP.share f=false:=by
     cases hh:AP.share f
     ·rfl
     ·rw [hh] at hshr;simp at hshr hq;rw [hq.2] at hshr;cases hshr
    rw [this];rfl
 have his:isShare AP fr (.call fo args)=none:=by
  cases hh:AP.share f
  ·exact Agw (hfr.opd hf) hh
  ·rw [hh] at hshr;exact Ala (hfr.opd hf) (.inr (.inr (.inr (by simpa using hshr))))
 simp only [stepL,step1,hg',hsh,noted_call,his,hal,Bool.false_eq_true,if_false,if_true,Acu,hd,hsem,effS,Abg,hm]
theorem AaQ {m:FM} {S:Store} {K:FM→Store→List FP→Prop} (h:K m S []):TD AP N [] m S K:=fun fr hfr=>⟨fr,m,S,[],hfr,h,Ev.const rfl⟩
theorem Aai {d:Option Nat} {op:AOp} {g:Option (Nat × Bool)} {un:List Nat} {slot:Nat} {l:List (Aaq × Nat)} {m:FM} {S S':Store} {v:AVal} {fp:FP} {K:FM→Store→List FP→Prop}
 (hd:(d.all fun d=>d<N)=true) (hg:gd m g=some true) (h:OpR AP m slot S op v S' fp) (hk:TD AP N l (putM m d v) S' fun m S fps=>K m S (fp::fps)) (hns:∀ fr,Fr fr m→isShare AP fr op=none:=by intro _ _;rfl):TD AP N ((⟨d,op,g,un⟩,slot)::l) m S K:=fun fr hfr=>by
 have hg':=hfr.gd hg
 obtain⟨rds,ws⟩:=fp
 obtain⟨fr',m',S'',fps,k1,k2,k3⟩:=hk _ (hfr.putO d v)
 refine⟨fr',m',S'',_,k1,k2,?_⟩
 obtain⟨e,h1,rfl,rfl,h4⟩:=h fr hfr
 simp only at h4 h1
 subst h4
 refine h1.bind k3 fun n hn hm=>?_
 simp only [AcD,hg',if_true,Acu,hd,hns fr hfr,hn,hm,effIds]
theorem td_off {d:Option Nat} {op:AOp} {g:Option (Nat × Bool)} {un:List Nat} {slot:Nat} {l:List (Aaq × Nat)} {m:FM} {S:Store} {K:FM→Store→List FP→Prop}
 (hd:(d.all fun d=>d<N)=true) (hg:gd m g=some false) (hk:TD AP N l (putM m d (.tuple [])) S fun m S fps=>K m S (([],[])::fps)):TD AP N ((⟨d,op,g,un⟩,slot)::l) m S K:=fun fr hfr=>by
 have hg':=hfr.gd hg
 obtain⟨fr',m',S'',fps,k1,k2,k3⟩:=hk _ (hfr.putO d _)
 refine⟨fr',m',S'',_,k1,k2,?_⟩
 refine k3.map fun n hm=>?_
 simp only [AcD,hg',if_true,Acu,hd,hm]
theorem tc_draw {l:List Aaq} {m:FM} {S:Store} {Q:AbV→FM→Store→Prop}
 (h:TD AP N (l.zip (slots AP (S.length+nslots AP l) S.length l)) m (S++List.replicate (nslots AP l) none) fun m' S' fps=>Afi fps l fps=true∧Q .normal m' S'):TC AP N (.draw l) m S Q:=fun fr hfr=>by
 obtain⟨fr',m',S',fps,h1,⟨h2,h2'⟩,h3⟩:=h fr hfr
 refine⟨_,fr',m',S',h1,h2',Ev.shift (h3.map fun n hn=>?_)⟩
 simp only [exec,F,hn,h2,if_true]
def TS (AP:AaB) (N s:Nat) (ss:List (List Aaq)) (m:FM) (S:Store) (K:FM→Store→Prop):Prop :=
 ∀ fr,Fr fr m→∃ fr' m' S',Fr fr' m'∧K m' S'∧Ev (fun n=>AbS AP (exec AP n) N s ss ⟨fr,S⟩) ⟨fr',S'⟩
theorem Aeu {ss:List (List Aaq)} {m:FM} {S:Store} {Q:AbV→FM→Store→Prop} (h:TS AP N 0 ss m S (Q .normal)):TC AP N (.drawS ss) m S Q:=fun fr hfr=>by
 obtain⟨fr',m',S',h1,h2,h3⟩:=h fr hfr
 refine⟨_,fr',m',S',h1,h2,Ev.shift (h3.map fun n hn=>?_)⟩
 simp only [exec,F,hn]
theorem AkO {s:Nat} {m:FM} {S:Store} {K:FM→Store→Prop} (h:K m S):TS AP N s [] m S K:=fun fr hfr=>⟨fr,m,S,hfr,h,Ev.const rfl⟩
theorem AcF {s:Nat} {i:Aaq} {ss:List (List Aaq)} {m:FM} {S:Store} {K:FM→Store→Prop} (h:TL AP N [i] m S fun m S=>TS AP N (s+1) ss m S K):TS AP N s ([i]::ss) m S K:=fun fr hfr=>by
 obtain⟨fr1,m1,S1,h1,h2,h3⟩:=h fr hfr
 obtain⟨fr',m',S',k1,k2,k3⟩:=h2 fr1 h1
 refine⟨fr',m',S',k1,k2,h3.bind k3 fun n hn hm=>?_⟩
 have hs:step1 AP (exec AP n) N i ⟨fr,S⟩=some ⟨fr1,S1⟩:=by
  simp only [stepL] at hn
  split at hn
  ·rename_i st hst;cases hn;exact hst
  ·cases hn
 simp only [AbS,Agj,hs,List.length_cons,List.length_nil,Nat.zero_add]
 exact hm
theorem ts_many {s:Nat} {i j:Aaq} {l:List Aaq} {ss:List (List Aaq)} {m:FM} {S:Store} {K:FM→Store→Prop}
 (h:TD AP N ((i::j::l).zip (slots AP (S.length+nslots AP (i::j::l)) S.length (i::j::l))) m (S++List.replicate (nslots AP (i::j::l)) none) fun m' S' fps=>Afi (List.replicate s ([],[])++fps) (i::j::l) fps=true∧TS AP N (s+(i::j::l).length) ss m' S' K) :
 TS AP N s ((i::j::l)::ss) m S K:=fun fr hfr=>by
 obtain⟨fr1,m1,S1,fps,h1,⟨h2,h2'⟩,h3⟩:=h fr hfr
 obtain⟨fr',m',S',k1,k2,k3⟩:=h2' fr1 h1
 refine⟨fr',m',S',k1,k2,h3.bind k3 fun n hn hm=>?_⟩
 simp only [AbS,Agj,hn,h2,if_true]
 exact hm
def Als (m:FM) (S:Store):ARes→Option AVal
 | .tmp t=>lkp m t
 | .cell t g sz=>match lkp m t with
   | some a=>match ((sem 0 (fun _=>a) (.load g sz (.t t))).run S) with
     | some (e,_)=>some e.val
     | none=>none
   | none=>none
def Acv (m:FM) (S:Store):List ARes→Option (List AVal)
 | []=>some []
 | r::rs=>match Als m S r,Acv m S rs with
   | some v,some vs=>some (v::vs)
   | _,_=>none
theorem Fr.res {fr:List AVal} {m:FM} {S:Store} (h:Fr fr m) {r:ARes} {v:AVal} (hr:Als m S r=some v):ares ⟨fr,S⟩ r=some v:=by
 cases r with
 | tmp t=>simp only [Als] at hr;simp only [ares,h t v hr]
 | cell t g sz =>
   simp only [Als] at hr
   split at hr
   ·rename_i a ha
    simp only [ares]
    have h1:Eng.opd fr (.t t)=a:=h t a ha
    simp only [sem] at hr ⊢
    rw [h1]
    exact hr
   ·cases hr
theorem Fr.resL {fr:List AVal} {m:FM} {S:Store} (h:Fr fr m):∀ {rs:List ARes} {vs:List AVal},Acv m S rs=some vs→AkK ⟨fr,S⟩ rs=some vs
 | [],_,hr=>hr
 | r::rs,vs,hr=>by
   simp only [Acv] at hr
   split at hr
   ·rename_i v us h1 h2
    cases hr
    simp only [AkK,h.res h1,h.resL h2]
   ·cases hr
theorem Aav {f:Nat} {af:AFunc} {args:List AVal} {r:AVal} (hf:AP.fn f=some af) (hn:args.length=af.nargs)
 (h:TC AP (max af.nargs af.N) af.body (initM 0 args) [] fun ex m S=>(ex = .normal∨ex = .ret)∧∃ vs ids,Acv m S af.res=some vs∧(frz AaM (one vs)).run S=some (r,ids)) (hpu:AP.pure f=none:=by rfl) (hdf:af.dfOf=false:=by rfl):Aaz AP f args r:=by
 obtain⟨ex,fr',m',S',h1,⟨h2,vs,ids,h3,h4⟩,h5⟩:=h args (AjX args)
 refine h5.map fun n hn'=>?_
 have hfin:finish af (ex,⟨fr',S'⟩)=some (one vs,S'):=by
  rcases h2 with rfl | rfl<;>simp only [finish,h1.resL h3]
 simp only [AlU hpu,AbF,callS,hf,hn,if_true,hn',hfin,hdf,Bool.false_eq_true,if_false,frz_P h4]
theorem o_callP {fo:AOpd} {args:List AOpd} {f:Nat} {first cap as as':List AVal} {r:AVal} {ids:List Nat} {m:FM} {slot:Nat} {S:Store} (hf:lo m fo=some (.fn (.func f) first cap)) (ha:los m args=some as) (hp:AP.prim f=none) (hke:AP.keep f=false)
 (hz:(RM.mapL (frzP AaM) (first++as++cap)).run S=some (as',ids)) (hr:Aaz AP f as' r) (hfl:(norefL (first++as++cap) || r.flat)=true) :
 OpR AP m slot S (.call fo args) r S (ids,[]):=fun fr hfr =>
 ⟨⟨r,none,[]⟩,by
   have hr':Ev (fun n=>callP AP (exec AP n) f as') r:=hr
   refine hr'.map fun n hn=>?_
   simp only [semX,hfr.opd hf,hfr.opds ha,AeH,hp,hke,Bool.false_eq_true,if_false]
   have:=bind_mk (f:=fun as=>match callP AP (exec AP n) f as with
    | some r=>if norefL (first++as'++cap) || r.flat then (.ok ⟨r,none,[]⟩:RM Eff) else .fail
    | none => .fail) (b:=(⟨r,none,[]⟩:Eff)) (l':=[]) hz
   refine(bind_mk (b:=(⟨r,none,[]⟩:Eff)) (l':=[]) hz ?_).trans (by simp)
   simp only [hn,hfl,Bool.true_or,if_true,RM.run],rfl,rfl,rfl⟩
end
end Go.Eng
namespace Go.Eng
open Go
variable [Inhabited GlobT]
theorem AbK {w:Nat} (b:BitVec w):BitVec.ofInt w (b.toNat:Int)=b:=by
 apply BitVec.eq_of_toNat_eq
 rw [BitVec.toNat_ofInt]
 have:=b.isLt
 have h:((b.toNat:Int)%((2^w:Nat):Int))=b.toNat:=Int.emod_eq_of_lt (by omega) (by exact_mod_cast this)
 rw [h];rfl
theorem AlY (n:Nat):IntKind.u8.wrap (n:Int)=((n%256:Nat):Int):=by
 simp [IntKind.wrap,IntKind.bits,IntKind.signed]
theorem wrapb_u8 (b:BitVec 8):IntKind.u8.wrap (b.toNat:Int)=b.toNat:=by
 rw [AlY];have:=b.isLt;congr 1;omega
theorem band_u8 (a b:BitVec 8):abin .and (.int .u8 a.toNat) (.int .u8 b.toNat)=some (.int .u8 (a &&& b).toNat):=by
 show some (AVal.int .u8 (IntKind.u8.wrap (BitVec.ofInt 8 a.toNat &&& BitVec.ofInt 8 b.toNat).toNat))=_
 rw [AbK,AbK,wrapb_u8]
theorem bor_u8 (a b:BitVec 8):abin .or (.int .u8 a.toNat) (.int .u8 b.toNat)=some (.int .u8 (a ||| b).toNat):=by
 show some (AVal.int .u8 (IntKind.u8.wrap (BitVec.ofInt 8 a.toNat ||| BitVec.ofInt 8 b.toNat).toNat))=_
 rw [AbK,AbK,wrapb_u8]
theorem AaW (a b:BitVec 8):abin .xor (.int .u8 a.toNat) (.int .u8 b.toNat)=some (.int .u8 (a ^^^ b).toNat):=by
 show some (AVal.int .u8 (IntKind.u8.wrap (BitVec.ofInt 8 a.toNat ^^^ BitVec.ofInt 8 b.toNat).toNat))=_
 rw [AbK,AbK,wrapb_u8]
theorem bmul_u8 (a b:BitVec 8):abin .mul (.int .u8 a.toNat) (.int .u8 b.toNat)=some (.int .u8 (a*b).toNat):=by
 show some (AVal.int .u8 (IntKind.u8.wrap ((a.toNat:Int)*b.toNat)))=_
 rw [←Int.natCast_mul,AlY,BitVec.toNat_mul]
theorem AkG (a:BitVec 8) (n:Nat) {k':IntKind}:abin .shr (.int .u8 a.toNat) (.int k' n)=some (.int .u8 (a >>> n).toNat):=by
 have h0:¬ ((n:Int)<0):=by omega
 show (if (n:Int)<0 then none else some (AVal.int .u8 ((a.toNat:Int).fdiv (2^min (n:Int).toNat 8))))=_
 rw [if_neg h0,Int.toNat_natCast]
 have h1:((a.toNat:Int).fdiv (2^min n 8))=((a.toNat / 2^min n 8:Nat):Int):=by
  rw [Int.fdiv_eq_ediv_of_nonneg _ (Int.le_of_lt (Int.pow_pos (by omega)))];norm_cast
 rw [h1,BitVec.toNat_ushiftRight,Nat.shiftRight_eq_div_pow]
 congr 3
 rcases Nat.le_total n 8 with h | h
 ·rw [Nat.min_eq_left h]
 ·rw [Nat.min_eq_right h,Nat.div_eq_of_lt a.isLt,Nat.div_eq_of_lt (Nat.lt_of_lt_of_le a.isLt (Nat.pow_le_pow_right (by omega) h))]
theorem bshl_u8 (a:BitVec 8) (n:Nat) {k':IntKind}:abin .shl (.int .u8 a.toNat) (.int k' n)=some (.int .u8 (a <<< n).toNat):=by
 have h0:¬ ((n:Int)<0):=by omega
 show (if (n:Int)<0 then none else some (AVal.int .u8 (IntKind.u8.wrap ((a.toNat:Int)*2^min (n:Int).toNat 8))))=_
 rw [if_neg h0,Int.toNat_natCast]
 have h1:((a.toNat:Int)*2^min n 8)=((a.toNat*2^min n 8:Nat):Int):=by norm_cast
 rw [h1,AlY,BitVec.toNat_shiftLeft,Nat.shiftLeft_eq]
 congr 3
 rcases Nat.le_total n 8 with h | h
 ·rw [Nat.min_eq_left h]
 ·rw [Nat.min_eq_right h]
  obtain⟨d,rfl⟩:∃ d,n=8+d:=⟨n - 8,by omega⟩
  rw [Nat.pow_add,Nat.mul_mod,←Nat.mul_assoc,Nat.mul_right_comm]
  simp
theorem AiJ (n:Nat):IntKind.u32.wrap (n:Int)=((n%4294967296:Nat):Int):=by
 simp [IntKind.wrap,IntKind.bits,IntKind.signed]
theorem wrapi_u32 (n:Int):IntKind.u32.wrap n=n%4294967296:=by
 simp [IntKind.wrap,IntKind.bits,IntKind.signed]
theorem AlX (b:BitVec 32):IntKind.u32.wrap (b.toNat:Int)=b.toNat:=by
 rw [AiJ];have:=b.isLt;congr 1;omega
theorem AeE (a b:BitVec 32):abin .and (.int .u32 a.toNat) (.int .u32 b.toNat)=some (.int .u32 (a &&& b).toNat):=by
 show some (AVal.int .u32 (IntKind.u32.wrap (BitVec.ofInt 32 a.toNat &&& BitVec.ofInt 32 b.toNat).toNat))=_
 rw [AbK,AbK,AlX]
theorem bor_u32 (a b:BitVec 32):abin .or (.int .u32 a.toNat) (.int .u32 b.toNat)=some (.int .u32 (a ||| b).toNat):=by
 show some (AVal.int .u32 (IntKind.u32.wrap (BitVec.ofInt 32 a.toNat ||| BitVec.ofInt 32 b.toNat).toNat))=_
 rw [AbK,AbK,AlX]
theorem Abl (a b:BitVec 32):abin .xor (.int .u32 a.toNat) (.int .u32 b.toNat)=some (.int .u32 (a ^^^ b).toNat):=by
 show some (AVal.int .u32 (IntKind.u32.wrap (BitVec.ofInt 32 a.toNat ^^^ BitVec.ofInt 32 b.toNat).toNat))=_
 rw [AbK,AbK,AlX]
theorem AaV (a b:BitVec 32):abin .add (.int .u32 a.toNat) (.int .u32 b.toNat)=some (.int .u32 (a+b).toNat):=by
 show some (AVal.int .u32 (IntKind.u32.wrap ((a.toNat:Int)+b.toNat)))=_
 rw [←Int.natCast_add,AiJ,BitVec.toNat_add]
theorem bmul_u32 (a b:BitVec 32):abin .mul (.int .u32 a.toNat) (.int .u32 b.toNat)=some (.int .u32 (a*b).toNat):=by
 show some (AVal.int .u32 (IntKind.u32.wrap ((a.toNat:Int)*b.toNat)))=_
 rw [←Int.natCast_mul,AiJ,BitVec.toNat_mul]
theorem bsub_u32 (a b:BitVec 32):abin .sub (.int .u32 a.toNat) (.int .u32 b.toNat)=some (.int .u32 (a - b).toNat):=by
 show some (AVal.int .u32 (IntKind.u32.wrap ((a.toNat:Int) - b.toNat)))=_
 rw [wrapi_u32,BitVec.toNat_sub]
 have:=a.isLt;have:=b.isLt
 congr 2;omega
theorem AfF (a:BitVec 32) (n:Nat) {k':IntKind}:abin .shr (.int .u32 a.toNat) (.int k' n)=some (.int .u32 (a >>> n).toNat):=by
 have h0:¬ ((n:Int)<0):=by omega
 show (if (n:Int)<0 then none else some (AVal.int .u32 ((a.toNat:Int).fdiv (2^min (n:Int).toNat 32))))=_
 rw [if_neg h0,Int.toNat_natCast]
 have h1:((a.toNat:Int).fdiv (2^min n 32))=((a.toNat / 2^min n 32:Nat):Int):=by
  rw [Int.fdiv_eq_ediv_of_nonneg _ (Int.le_of_lt (Int.pow_pos (by omega)))];norm_cast
 rw [h1,BitVec.toNat_ushiftRight,Nat.shiftRight_eq_div_pow]
 congr 3
 rcases Nat.le_total n 32 with h | h
 ·rw [Nat.min_eq_left h]
 ·rw [Nat.min_eq_right h,Nat.div_eq_of_lt a.isLt,Nat.div_eq_of_lt (Nat.lt_of_lt_of_le a.isLt (Nat.pow_le_pow_right (by omega) h))]
theorem bshl_u32 (a:BitVec 32) (n:Nat) {k':IntKind}:abin .shl (.int .u32 a.toNat) (.int k' n)=some (.int .u32 (a <<< n).toNat):=by
 have h0:¬ ((n:Int)<0):=by omega
 show (if (n:Int)<0 then none else some (AVal.int .u32 (IntKind.u32.wrap ((a.toNat:Int)*2^min (n:Int).toNat 32))))=_
 rw [if_neg h0,Int.toNat_natCast]
 have h1:((a.toNat:Int)*2^min n 32)=((a.toNat*2^min n 32:Nat):Int):=by norm_cast
 rw [h1,AiJ,BitVec.toNat_shiftLeft,Nat.shiftLeft_eq]
 congr 3
 rcases Nat.le_total n 32 with h | h
 ·rw [Nat.min_eq_left h]
 ·rw [Nat.min_eq_right h]
  obtain⟨d,rfl⟩:∃ d,n=32+d:=⟨n - 32,by omega⟩
  rw [Nat.pow_add,Nat.mul_mod,←Nat.mul_assoc,Nat.mul_right_comm]
  simp
theorem AiI (n:Nat):IntKind.u64.wrap (n:Int)=((n%18446744073709551616:Nat):Int):=by
 simp [IntKind.wrap,IntKind.bits,IntKind.signed]
theorem wrapb_u64 (b:BitVec 64):IntKind.u64.wrap (b.toNat:Int)=b.toNat:=by
 rw [AiI];have:=b.isLt;congr 1;omega
theorem band_u64 (a b:BitVec 64):abin .and (.int .u64 a.toNat) (.int .u64 b.toNat)=some (.int .u64 (a &&& b).toNat):=by
 show some (AVal.int .u64 (IntKind.u64.wrap (BitVec.ofInt 64 a.toNat &&& BitVec.ofInt 64 b.toNat).toNat))=_
 rw [AbK,AbK,wrapb_u64]
theorem bor_u64 (a b:BitVec 64):abin .or (.int .u64 a.toNat) (.int .u64 b.toNat)=some (.int .u64 (a ||| b).toNat):=by
 show some (AVal.int .u64 (IntKind.u64.wrap (BitVec.ofInt 64 a.toNat ||| BitVec.ofInt 64 b.toNat).toNat))=_
 rw [AbK,AbK,wrapb_u64]
theorem AjH (a b:BitVec 64):abin .add (.int .u64 a.toNat) (.int .u64 b.toNat)=some (.int .u64 (a+b).toNat):=by
 show some (AVal.int .u64 (IntKind.u64.wrap ((a.toNat:Int)+b.toNat)))=_
 rw [←Int.natCast_add,AiI,BitVec.toNat_add]
theorem Ahv (a b:BitVec 64):abin .mul (.int .u64 a.toNat) (.int .u64 b.toNat)=some (.int .u64 (a*b).toNat):=by
 show some (AVal.int .u64 (IntKind.u64.wrap ((a.toNat:Int)*b.toNat)))=_
 rw [←Int.natCast_mul,AiI,BitVec.toNat_mul]
theorem AbU (a:BitVec 64) (n:Nat) {k':IntKind}:abin .shr (.int .u64 a.toNat) (.int k' n)=some (.int .u64 (a >>> n).toNat):=by
 have h0:¬ ((n:Int)<0):=by omega
 show (if (n:Int)<0 then none else some (AVal.int .u64 ((a.toNat:Int).fdiv (2^min (n:Int).toNat 64))))=_
 rw [if_neg h0,Int.toNat_natCast]
 have h1:((a.toNat:Int).fdiv (2^min n 64))=((a.toNat / 2^min n 64:Nat):Int):=by
  rw [Int.fdiv_eq_ediv_of_nonneg _ (Int.le_of_lt (Int.pow_pos (by omega)))];norm_cast
 rw [h1,BitVec.toNat_ushiftRight,Nat.shiftRight_eq_div_pow]
 congr 3
 rcases Nat.le_total n 64 with h | h
 ·rw [Nat.min_eq_left h]
 ·rw [Nat.min_eq_right h,Nat.div_eq_of_lt a.isLt,Nat.div_eq_of_lt (Nat.lt_of_lt_of_le a.isLt (Nat.pow_le_pow_right (by omega) h))]
theorem bshl_u64 (a:BitVec 64) (n:Nat) {k':IntKind}:abin .shl (.int .u64 a.toNat) (.int k' n)=some (.int .u64 (a <<< n).toNat):=by
 have h0:¬ ((n:Int)<0):=by omega
 show (if (n:Int)<0 then none else some (AVal.int .u64 (IntKind.u64.wrap ((a.toNat:Int)*2^min (n:Int).toNat 64))))=_
 rw [if_neg h0,Int.toNat_natCast]
 have h1:((a.toNat:Int)*2^min n 64)=((a.toNat*2^min n 64:Nat):Int):=by norm_cast
 rw [h1,AiI,BitVec.toNat_shiftLeft,Nat.shiftLeft_eq]
 congr 3
 rcases Nat.le_total n 64 with h | h
 ·rw [Nat.min_eq_left h]
 ·rw [Nat.min_eq_right h]
  obtain⟨d,rfl⟩:∃ d,n=64+d:=⟨n - 64,by omega⟩
  rw [Nat.pow_add,Nat.mul_mod,←Nat.mul_assoc,Nat.mul_right_comm]
  simp
end Go.Eng
namespace Go.Eng
open Go
variable [Inhabited GlobT]
section
variable {AP:AaB} {m:FM} {slot:Nat} {S:Store} {N:Nat}
theorem AdM {op:AOp} {v:AVal} (h:∀ fr,Fr fr m→∀ n,(semX AP (exec AP n) slot (opd fr) op).run S=some (⟨v,none,[]⟩,[])):OpR AP m slot S op v S ([],[]) :=
 fun fr hfr=>⟨⟨v,none,[]⟩,⟨0,fun n _=>h fr hfr n⟩,rfl,rfl,rfl⟩
theorem opr_r {op:AOp} {v:AVal} {b:Nat} (h:∀ fr,Fr fr m→∀ n,(semX AP (exec AP n) slot (opd fr) op).run S=some (⟨v,none,[]⟩,[b])):OpR AP m slot S op v S ([b],[]) :=
 fun fr hfr=>⟨⟨v,none,[]⟩,⟨0,fun n _=>h fr hfr n⟩,rfl,rfl,rfl⟩
theorem opr_n {op:AOp} {v:AVal} {blk:ABlock} (h:∀ fr,Fr fr m→∀ n,(semX AP (exec AP n) slot (opd fr) op).run S=some (⟨v,some blk,[]⟩,[])):OpR AP m slot S op v (S.set slot (some blk)) ([],[slot]) :=
 fun fr hfr=>⟨⟨v,some blk,[]⟩,⟨0,fun n _=>h fr hfr n⟩,rfl,rfl,rfl⟩
theorem opr_w {op:AOp} {v:AVal} {b:Nat} {x:Option ABlock} (h:∀ fr,Fr fr m→∀ n,(semX AP (exec AP n) slot (opd fr) op).run S=some (⟨v,none,[(b,x)]⟩,[b])):OpR AP m slot S op v (S.set b x) ([b],[b]) :=
 fun fr hfr=>⟨⟨v,none,[(b,x)]⟩,⟨0,fun n _=>h fr hfr n⟩,rfl,rfl,rfl⟩
theorem Abd {x:AOpd} {v:AVal} (h:lo m x=some v):OpR AP m slot S (.move x) v S ([],[]) :=
 AdM fun fr hfr n=>by simp only [semX,sem,hfr.opd h,RM.run]
theorem o_alloc {row:List AVal}:OpR AP m slot S (.alloc row) (.ptr slot 0 0) (S.set slot (some ⟨row.length,[row]⟩)) ([],[slot]) :=
 opr_n fun fr hfr n=>by simp only [semX,sem,RM.run]
theorem o_box {sz:Nat} {x:AOpd} {v:AVal} {cs:List AVal} (h:lo m x=some v) (h1:Abp v=true) (h2:AbA v=cs) (h3:cs.length=sz):OpR AP m slot S (.box sz x) (.ptr slot 0 0) (S.set slot (some ⟨sz,[cs]⟩)) ([],[slot]) :=
 opr_n fun fr hfr n=>by simp only [semX,sem,hfr.opd h,h1,h2,h3,and_self,if_true,RM.run]
def lop {β:Type} (m:FM):List (β × AOpd)→Option (List (β × AVal))
 | []=>some []
 | (p,x)::xs=>match lo m x,lop m xs with
   | some v,some vs=>some ((p,v)::vs)
   | _,_=>none
theorem Fr.opp {β:Type} {fr:List AVal} {m:FM} (h:Fr fr m):∀ {xs:List (β × AOpd)} {vs:List (β × AVal)},lop m xs=some vs→(xs.map fun p=>(p.1,Eng.opd fr p.2))=vs
 | [],_,hx=>by simp only [lop] at hx;cases hx;rfl
 | (p,x)::xs,vs,hx=>by
   simp only [lop] at hx
   split at hx
   ·rename_i v us h1 h2
    cases hx
    rw [List.map_cons,h.opp h2,h.opd h1]
   ·cases hx
theorem o_build {zero cs:List AVal} {ps:List ((Nat × Nat) × AOpd)} {vs:List ((Nat × Nat) × AVal)} (h:lop m ps=some vs) (h1:fillCells zero vs=some cs):OpR AP m slot S (.build zero ps) (.agg cs) S ([],[]) :=
 AdM fun fr hfr n=>by simp only [semX,sem,hfr.opp h,h1,Option.map_some,Eff.o,RM.run]
theorem Aez {zero:List AVal} {sz len:Nat} {ps:List (Nat × AOpd)} {vs:List (Nat × AVal)} {rows:List (List AVal)} (h:lop m ps=some vs) (h1:fillRows sz (List.replicate len zero) vs=some rows):OpR AP m slot S (.buildSlice zero sz len ps) (.lim rows) S ([],[]) :=
 AdM fun fr hfr n=>by simp only [semX,sem,hfr.opp h,h1,Option.map_some,Eff.o,RM.run]
theorem AaG {g:Bool} {sz b i f:Nat} {a:AOpd} {blk:ABlock} {r:List AVal} {v:AVal} (h:lo m a=some (.ptr b i f)) (h1:S[b]?=some (some blk)) (h2:blk.rows[i]?=some r) (h3:f+sz≤r.length) (h4:Acg g sz (r.drop f)=some v) :
 OpR AP m slot S (.load g sz a) v S ([b],[]) :=
 opr_r fun fr hfr n=>by simp only [semX,sem,hfr.opd h,RM.run,h1,h2,h3,h4,if_true,Eff.o]
theorem AjR {g:Bool} {sz:Nat} {a:AOpd} {cs:List AVal} {v:AVal} (h:lo m a=some (.rptr cs)) (h3:sz≤cs.length) (h4:Acg g sz cs=some v) :
 OpR AP m slot S (.load g sz a) v S ([],[]) :=
 AdM fun fr hfr n=>by simp only [semX,sem,hfr.opd h,RM.run,h3,h4,if_true,Eff.o]
theorem AaT {sz b i f:Nat} {a x:AOpd} {blk:ABlock} {r cs:List AVal} {v:AVal} (h:lo m a=some (.ptr b i f)) (hx:lo m x=some v) (h1:S[b]?=some (some blk)) (h2:blk.rows[i]?=some r) (hv:Abp v=true) (hc:AbA v=cs)
 (h3:cs.length=sz) (h4:f+sz≤r.length) (h5:cs.all storable=true):OpR AP m slot S (.store sz a x) (.tuple []) (S.set b (some ⟨blk.sz,blk.rows.set i (r.take f++cs++r.drop (f+sz))⟩)) ([b],[b]) :=
 opr_w fun fr hfr n=>by simp only [semX,sem,hfr.opd h,hfr.opd hx,RM.run,h1,h2,hv,hc,h3,h4,h5,and_self,if_true]
theorem Aas {op:BinOp} {x y:AOpd} {vx vy v:AVal} (hx:lo m x=some vx) (hy:lo m y=some vy) (h:abin op vx vy=some v):OpR AP m slot S (.bin op x y) v S ([],[]) :=
 AdM fun fr hfr n=>by simp only [semX,sem,hfr.opd hx,hfr.opd hy,h,Eff.o,RM.run]
theorem o_un {op:UnOp} {x:AOpd} {vx v:AVal} (hx:lo m x=some vx) (h:aun op vx=some v):OpR AP m slot S (.un op x) v S ([],[]) :=
 AdM fun fr hfr n=>by simp only [semX,sem,hfr.opd hx,h,Eff.o,RM.run]
theorem o_conv {k k':IntKind} {n:Int} {x:AOpd} (hx:lo m x=some (.int k' n)):OpR AP m slot S (.conv (.int k) x) (.int k (k.wrap n)) S ([],[]) :=
 AdM fun fr hfr n=>by simp only [semX,sem,hfr.opd hx,Eff.o,RM.run]
theorem o_len_imm {x:AOpd} {rows:List (List AVal)} (hx:lo m x=some (.imm rows)):OpR AP m slot S (.len false x) (.int .i64 rows.length) S ([],[]) :=
 AdM fun fr hfr n=>by simp only [semX,sem,hfr.opd hx,RM.run]
theorem o_len_nils {x:AOpd} (hx:lo m x=some .nils):OpR AP m slot S (.len false x) (.int .i64 0) S ([],[]) :=
 AdM fun fr hfr n=>by simp only [semX,sem,hfr.opd hx,RM.run]
theorem o_len_view {x:AOpd} {b off len:Nat} {full:Bool} (hx:lo m x=some (.view b off len full)):OpR AP m slot S (.len false x) (.int .i64 len) S ([],[]) :=
 AdM fun fr hfr n=>by simp only [semX,sem,hfr.opd hx,RM.run]
theorem Ack {sz:Nat} {x i:AOpd} {k:IntKind} {n:Nat} {rows:List (List AVal)} {r:List AVal} (hx:lo m x=some (.imm rows)) (hi:lo m i=some (.int k n)) (hr:rows[n]?=some r) (hl:r.length=sz):OpR AP m slot S (.iaddr sz x i) (.rptr r) S ([],[]) :=
 AdM fun fr hfr f=>by simp [semX,sem,hfr.opd hx,hfr.opd hi,aint,hr,hl,RM.run]
theorem o_iaddr_lim {sz:Nat} {x i:AOpd} {k:IntKind} {n:Nat} {rows:List (List AVal)} {r:List AVal} (hx:lo m x=some (.lim rows)) (hi:lo m i=some (.int k n)) (hr:rows[n]?=some r) (hl:r.length=sz):OpR AP m slot S (.iaddr sz x i) (.rptr r) S ([],[]) :=
 AdM fun fr hfr f=>by simp [semX,sem,hfr.opd hx,hfr.opd hi,aint,hr,hl,RM.run]
theorem o_iaddr_view {sz b off len:Nat} {full:Bool} {x i:AOpd} {k:IntKind} {n:Nat} {blk:ABlock} (hx:lo m x=some (.view b off len full)) (hi:lo m i=some (.int k n)) (hn:n<len) (h1:S[b]?=some (some blk)) (h2:blk.sz=sz) :
 OpR AP m slot S (.iaddr sz x i) (.ptr b (off+n) 0) S ([b],[]) :=
 opr_r fun fr hfr f=>by
  have:(n:Int)<(len:Int):=by omega
  simp [semX,sem,hfr.opd hx,hfr.opd hi,aint,this,h1,h2,RM.run]
theorem Agr {x:AOpd} {i:Nat} {vs:List AVal} {v:AVal} (hx:lo m x=some (.tuple vs)) (h:vs[i]?=some v):OpR AP m slot S (.extract x i) v S ([],[]) :=
 AdM fun fr hfr n=>by simp only [semX,sem,hfr.opd hx,h,Eff.o,RM.run]
theorem o_maxI {xs:List AOpd} {vs:List AVal} {v:AVal} (h:los m xs=some vs) (h1:aext (fun a b=>if b>a then b else a) vs=some v):OpR AP m slot S (.maxI xs) v S ([],[]) :=
 AdM fun fr hfr n=>by simp only [semX,sem,hfr.opds h,h1,Eff.o,RM.run]
theorem o_minI {xs:List AOpd} {vs:List AVal} {v:AVal} (h:los m xs=some vs) (h1:aext (fun a b=>if b<a then b else a) vs=some v):OpR AP m slot S (.minI xs) v S ([],[]) :=
 AdM fun fr hfr n=>by simp only [semX,sem,hfr.opds h,h1,Eff.o,RM.run]
theorem AcR {sz bytes:Nat} {x y:AOpd} {rows:List (List AVal)} {vy:AVal} (hx:lo m x=some .nils) (hy:lo m y=some vy) (hr:rowsOf sz vy = .ok rows) (hne:rows≠[]) (hb:rows.length*bytes≤17592186044416) :
 OpR AP m slot S (.append sz bytes x y) (.view slot 0 rows.length false) (S.set slot (some ⟨sz,rows⟩)) ([],[slot]) :=
 opr_n fun fr hfr n=>by
  cases rows with
  | nil=>exact absurd rfl hne
  | cons r rs=>simp only [semX,sem,hfr.opd hx,hfr.opd hy,hr,RM.bind,appendTo,hb,if_true,RM.run]
theorem o_append_lim {sz bytes:Nat} {x y:AOpd} {rows0 rows:List (List AVal)} {vy:AVal} (hx:lo m x=some (.lim rows0)) (hy:lo m y=some vy) (hr:rowsOf sz vy = .ok rows) (hne:rows≠[]) (hb:(rows0.length+rows.length)*bytes≤17592186044416) (h0:AiY sz rows0.head?=true) :
 OpR AP m slot S (.append sz bytes x y) (.view slot 0 (rows0.length+rows.length) false) (S.set slot (some ⟨sz,rows0++rows⟩)) ([],[slot]) :=
 opr_n fun fr hfr n=>by
  cases rows with
  | nil=>exact absurd rfl hne
  | cons r rs=>simp only [semX,sem,hfr.opd hx,hfr.opd hy,hr,RM.bind,appendTo,hb,h0,and_self,if_true,RM.run]
theorem o_append_none {sz bytes:Nat} {x y:AOpd} {vx vy:AVal} (hx:lo m x=some vx) (hy:lo m y=some vy) (hr:rowsOf sz vy = .ok []) (hv:appendTo sz bytes slot vx [] = .ok ⟨vx,none,[]⟩) :
 OpR AP m slot S (.append sz bytes x y) vx S ([],[]) :=
 AdM fun fr hfr n=>by simp only [semX,sem,hfr.opd hx,hfr.opd hy,hr,RM.bind,hv,RM.run]
theorem AdN {sz bytes b len:Nat} {x y:AOpd} {rows0 rows:List (List AVal)} {vy:AVal} (hx:lo m x=some (.view b 0 len false)) (hy:lo m y=some vy) (hr:rowsOf sz vy = .ok rows) (hne:rows≠[]) (h1:S[b]?=some (some ⟨sz,rows0⟩)) (hl:rows0.length=len)
 (hb:(len+rows.length)*bytes≤17592186044416) (hst:(rows.all fun r=>r.all storable)=true) :
 OpR AP m slot S (.append sz bytes x y) (.view slot 0 (len+rows.length) false) ((S.set b none).set slot (some ⟨sz,rows0++rows⟩)) ([b],[b,slot]):=fun fr hfr =>
 ⟨⟨.view slot 0 (len+rows.length) false,some ⟨sz,rows0++rows⟩,[(b,none)]⟩,⟨0,fun n _=>by
   cases rows with
   | nil=>exact absurd rfl hne
   | cons r rs =>
     simp only [semX,sem,hfr.opd hx,hfr.opd hy,hr,RM.bind,appendTo,RM.run,h1,Nat.zero_add,hl,Nat.le_refl,hb,hst,and_self,if_true,List.drop_zero,Bool.false_eq_true,if_false]⟩,rfl,rfl,rfl⟩
end
theorem wrap64 {n:Int} (h1 : -9223372036854775808≤n) (h2:n<9223372036854775808):IntKind.i64.wrap n=n:=by
 simp [IntKind.wrap,IntKind.bits,IntKind.signed];omega
theorem wrapu64 {n:Int} (h1:0≤n) (h2:n<18446744073709551616):IntKind.u64.wrap n=n:=by
 simp [IntKind.wrap,IntKind.bits,IntKind.signed];omega
section
variable {AP:AaB} {m:FM} {slot:Nat} {S:Store} {N:Nat}
theorem o_add {x y:AOpd} {a b c:Int} (hx:lo m x=some (.int .i64 a)) (hy:lo m y=some (.int .i64 b)) (hc:a+b=c) (h1 : -9223372036854775808≤c) (h2:c<9223372036854775808):OpR AP m slot S (.bin .add x y) (.int .i64 c) S ([],[]) :=
 Aas hx hy (by subst hc;simp only [abin,AcC,Bool.false_eq_true,if_false,if_true,aintop,wrap64 h1 h2])
theorem o_sub {x y:AOpd} {a b c:Int} (hx:lo m x=some (.int .i64 a)) (hy:lo m y=some (.int .i64 b)) (hc:a - b=c) (h1 : -9223372036854775808≤c) (h2:c<9223372036854775808):OpR AP m slot S (.bin .sub x y) (.int .i64 c) S ([],[]) :=
 Aas hx hy (by subst hc;simp only [abin,AcC,Bool.false_eq_true,if_false,if_true,aintop,wrap64 h1 h2])
theorem o_lss {x y:AOpd} {k:IntKind} {a b:Int} (hx:lo m x=some (.int k a)) (hy:lo m y=some (.int k b)):OpR AP m slot S (.bin .lss x y) (.bool (decide (a<b))) S ([],[]) :=
 Aas hx hy (by simp only [abin,AcC,Bool.false_eq_true,if_false,if_true,aintop])
theorem Abh {d:Option Nat} {op:AOp} {g:Option (Nat × Bool)} {un:List Nat} {l:List Aaq} {m:FM} {S S':Store} {v:AVal} {fp:FP} {K:FM→Store→Prop}
 (h:OpR AP m S.length (S++[none]) op v S' fp) (ha:allocs op=true) (hd:(d.all fun d=>d<N)=true) (hg:gd m g=some true) (hc:isCallO op=false)
 (hk:TL AP N l (putM m d v) S' K):TL AP N (⟨d,op,g,un⟩::l) m S K:=tl_op hd hg hc (by rw [if_pos ha];exact h) hk
theorem Aae {d:Option Nat} {op:AOp} {g:Option (Nat × Bool)} {un:List Nat} {l:List Aaq} {m:FM} {S S':Store} {v:AVal} {fp:FP} {K:FM→Store→Prop}
 (h:OpR AP m S.length S op v S' fp) (ha:allocs op=false) (hd:(d.all fun d=>d<N)=true) (hg:gd m g=some true) (hc:isCallO op=false)
 (hk:TL AP N l (putM m d v) S' K):TL AP N (⟨d,op,g,un⟩::l) m S K:=tl_op hd hg hc (by rw [ha,if_neg (by decide)];exact h) hk
end
end Go.Eng
namespace Go.Eng
open Go
variable [Inhabited GlobT]
theorem Afw {p:Bool}:∀ (n:Nat) (v:AVal),v.closed=true→frzG p n v = .ok v
 | 0,v,h=>by rw [frzG.eq_def];simp only;rw [if_pos h]
 | n+1,v,h=>by rw [frzG.eq_def];simp only;rw [if_pos h]
theorem frz_closedE (n:Nat) (v:AVal) (h:v.closed=true):frz n v = .ok v:=Afw n v h
theorem Adv {p:Bool} (n:Nat):∀ (vs:List AVal),AaC vs=true→RM.mapL (frzG p n) vs = .ok vs
 | [],_=>rfl
 | v::vs,h=>by
   simp only [AaC,Bool.and_eq_true] at h
   simp only [RM.mapL,Afw n v h.1,RM.bind,Adv n vs h.2]
theorem mapL_frz (n:Nat) (vs:List AVal) (h:AaC vs=true):RM.mapL (frz n) vs = .ok vs:=Adv n vs h
theorem mapLL_frzG {p:Bool} (n:Nat):∀ (vs:List (List AVal)),AaX vs=true→RM.mapL (RM.mapL (frzG p n)) vs = .ok vs
 | [],_=>rfl
 | v::vs,h=>by
   simp only [AaX,Bool.and_eq_true] at h
   simp only [RM.mapL,Adv n v h.1,RM.bind,mapLL_frzG n vs h.2]
theorem mapLL_frz (n:Nat) (vs:List (List AVal)) (h:AaX vs=true):RM.mapL (RM.mapL (frz n)) vs = .ok vs:=mapLL_frzG n vs h
theorem AlO {n b off len:Nat} {full:Bool} {S:Store} {blk:ABlock} {rows:List (List AVal)} (h1:S[b]?=some (some blk)) (h2:off+len≤blk.rows.length) (h3:(blk.rows.drop off).take len=rows) (h4:AaX rows=true) :
 (frz (n+1) (.view b off len full)).run S=some (.imm rows,[b]):=by
 simp only [frz,frzG,AVal.closed,Bool.false_eq_true,if_false,RM.run,h1,h2,if_true,h3,mapLL_frz n rows h4,RM.bind]
theorem frz_nils {n:Nat} {S:Store}:(frz (n+1) .nils).run S=some (.imm [],[]):=by
 simp only [frz,frzG,AVal.closed,Bool.false_eq_true,if_false,RM.mapL,RM.bind,RM.run]
theorem AjW {n:Nat} {S:Store} {rows:List (List AVal)} (h:AaX rows=true):(frz (n+1) (.lim rows)).run S=some (.imm rows,[]):=by
 simp only [frz,frzG,AVal.closed,Bool.false_eq_true,if_false,mapLL_frz n rows h,RM.bind,RM.run]
theorem AaJ {n:Nat} {S:Store} {v:AVal} (h:v.closed=true):(frz n v).run S=some (v,[]):=by
 rw [frz_closedE n v h];rfl
theorem Acy {α β:Type}:∀ (m:RM α) (f:α→RM β) (S:Store) (a:α) (ids ids':List Nat) (y:β),m.run S=some (a,ids)→(f a).run S=some (y,ids')→(m.bind f).run S=some (y,ids++ids')
 | .ok a,f,S,b,ids,ids',y,h,hy=>by simp [RM.run] at h;obtain⟨rfl,rfl⟩:=h;exact hy
 | .fail,f,S,a,ids,ids',y,h,hy=>by simp [RM.run] at h
 | .rd c k,f,S,a,ids,ids',y,h,hy=>by
   obtain⟨blk,l,g1,g2,g3⟩:=AaR h
   simp only at g3 g2
   subst g3
   simp only [RM.bind,RM.run,g1,Acy (k blk) f S a l ids' y g2 hy,List.cons_append]
def FrzL (S:Store) (vs vs':List AVal):Prop:=∀ n,∃ids,(RM.mapL (frz (n+3)) vs).run S=some (vs',ids)
theorem Ajn {S:Store}:FrzL S [] []:=fun _=>⟨[],rfl⟩
theorem Aeh {S:Store} {v v':AVal} {vs vs':List AVal} (h:∀ n,∃ids,(frz (n+3) v).run S=some (v',ids)) (hr:FrzL S vs vs'):FrzL S (v::vs) (v'::vs'):=fun n=>by
 obtain⟨i,h1⟩:=h n
 obtain⟨j,h2⟩:=hr n
 refine⟨i++(j++[]),?_⟩
 simp only [RM.mapL]
 refine Acy _ _ _ _ _ _ _ h1 ?_
 exact Acy _ _ _ _ _ _ _ h2 rfl
section
variable {AP:AaB} {m:FM} {slot:Nat} {S:Store} {N:Nat}
end
theorem AdK {AP:AaB} {N:Nat} {l:List Aaq} {m:FM} {S:Store} {Q:AbV→FM→Store→Prop} (R:Store) (hR:List.replicate (nslots AP l) none=R)
 (h:TD AP N (l.zip (slots AP (S.length+nslots AP l) S.length l)) m (S++R) fun m' S' fps=>Afi fps l fps=true∧Q .normal m' S'):TC AP N (.draw l) m S Q:=tc_draw (by rw [hR];exact h)
theorem retd {m:FM} {S:Store} {rs:List ARes} {vs:List AVal} {r:AVal} (h1:Acv m S rs=some vs) (h2:∃ ids,(frz AaM (one vs)).run S=some (r,ids)) :
 (AbV.ret = .normal∨AbV.ret = .ret)∧∃ vs ids,Acv m S rs=some vs∧(frz AaM (one vs)).run S=some (r,ids):=⟨.inr rfl,vs,h2.choose,h1,h2.choose_spec⟩
theorem AaE {AP:AaB} {N:Nat} {c:Aaj} {Q:AbV→FM→Store→Prop} {m:FM} {S:Store} {σ:Type} (μ:σ→Nat) (mf:σ→FM) (I:σ→Store→Prop) (s0:σ) (h0:Wk m (mf s0)) (hS:I s0 S)
 (hb:∀ s S,I s S→TC AP N c (mf s) S fun ex m' S'=>match ex with | .normal=>∃ s',μ s'<μ s∧Wk m' (mf s')∧I s' S' | ex=>Q ex m' S'):TC AP N (.loop c) m S Q:=by
 refine tc_loop (Inv:=fun k m S=>∃ s,k=μ s∧Wk m (mf s)∧I s S) ?_ (μ s0) m S ⟨s0,rfl,h0,hS⟩
 rintro k m S ⟨s,rfl,hw,hi⟩
 refine TC.weaken hw ((hb s S hi).mono ?_)
 intro ex m' S' h
 cases ex with
 | normal =>
   obtain⟨s',h1,h2,h3⟩:=h
   exact⟨μ s',m',h1,.refl _,s',rfl,h2,h3⟩
 | exit id=>exact h
 | ret=>exact h
end Go.Eng
namespace Go.Eng
open Go
variable [Inhabited GlobT]
section
variable {AP:AaB} {m:FM} {slot:Nat} {S:Store} {N:Nat}
end
end Go.Eng
namespace Go.Eng
open Go
variable [Inhabited GlobT]
@[simp] theorem AbC {S:Store} {a b:Option ABlock}:(S++[a]).set S.length b=S++[b]:=by
  rw [List.set_append_right _ _ (Nat.le_refl _)];simp
@[simp] theorem Abc {S:Store} {a:Option ABlock}:(S++[a])[S.length]?=some a:=by simp
def Acc (k sz:Nat) (S:Store) (v:AVal) (rows:List (List AVal)):Prop :=
 (v = .nils∧rows=[])∨(rows≠[]∧∃ b,k≤b∧v = .view b 0 rows.length false∧S[b]?=some (some ⟨sz,rows⟩))
theorem AgX {k sz:Nat} {S:Store}:Acc k sz S .nils [] := .inl ⟨rfl,rfl⟩
theorem Acc.snoc {k sz:Nat} {S:Store} {v:AVal} {rows:List (List AVal)} (h:Acc k sz S v rows) (x:List (Option ABlock)):Acc k sz (S++x) v rows:=by
 rcases h with h | ⟨h1,b,h2,h3,h4⟩
 ·exact .inl h
 ·refine .inr ⟨h1,b,h2,h3,?_⟩
  rw [List.getElem?_append_left (List.getElem?_eq_some_iff.1 h4).1];exact h4
theorem Acc.set {k sz:Nat} {S:Store} {v:AVal} {rows:List (List AVal)} (h:Acc k sz S v rows) {j:Nat} (hj:j<k) (x:Option ABlock):Acc k sz (S.set j x) v rows:=by
 rcases h with h | ⟨h1,b,h2,h3,h4⟩
 ·exact .inl h
 ·refine .inr ⟨h1,b,h2,h3,?_⟩
  rw [Aag,if_neg (by omega)];exact h4
theorem Acc.frz {k sz n:Nat} {S:Store} {v:AVal} {rows:List (List AVal)} (h:Acc k sz S v rows) (hc:AaX rows=true):∃ ids,(frz (n+1) v).run S=some (.imm rows,ids):=by
 rcases h with⟨rfl,rfl⟩ | ⟨h1,b,h2,rfl,h4⟩
 ·exact⟨_,frz_nils⟩
 ·exact⟨_,AlO h4 (by simp) (by simp) hc⟩
def LoIs (m:FM) (x:Option AOpd) (n d:Nat):Prop:=(x=none∧n=d)∨∃ a k,x=some a∧lo m a=some (.int k (n:Int))
theorem Aby {m:FM} {a:AOpd} {k:IntKind} {n d:Nat} (h:lo m a=some (.int k (n:Int))):LoIs m (some a) n d := .inr ⟨a,k,rfl,h⟩
theorem Aef {m:FM} {d:Nat}:LoIs m none d d := .inl ⟨rfl,rfl⟩
section
variable {AP:AaB} {N:Nat}
theorem tl_acc {d:Option Nat} {k sz bytes:Nat} {x y:AOpd} {v vy:AVal} {rows new:List (List AVal)} {g:Option (Nat × Bool)} {un:List Nat} {l:List Aaq} {m:FM} {S:Store} {K:FM→Store→Prop}
 (hx:lo m x=some v) (hy:lo m y=some vy) (hacc:Acc k sz S v rows) (hr:rowsOf sz vy = .ok new) (hne:new≠[]) (hst:(new.all fun r=>r.all storable)=true) (hb:(rows.length+new.length)*bytes≤17592186044416) (hkS:k≤S.length)
 (hd:(d.all fun d=>d<N)=true) (hg:gd m g=some true)
 (hk:∀ v' S',Acc k sz S' v' (rows++new)→S'.length=S.length+1→(∀ j,j<k→S'[j]?=S[j]?)→TL AP N l (putM m d v') S' K):TL AP N (⟨d,.append sz bytes x y,g,un⟩::l) m S K:=by
 rcases hacc with⟨rfl,rfl⟩ | ⟨h1,b,h2,rfl,h4⟩
 ·refine Abh (AcR hx hy hr hne (by simp at hb;omega)) rfl hd hg rfl ?_
  refine hk _ _ ?_ (by simp) ?_
  ·refine .inr ⟨by simpa using hne,S.length,hkS,by simp,?_⟩
   simp
  ·intro j hj
   rw [AbC,List.getElem?_append_left (by omega)]
 ·have hbl:b<S.length:=(List.getElem?_eq_some_iff.1 h4).1
  refine Abh (AdN hx hy hr hne (rows0:=rows) (by rw [List.getElem?_append_left hbl];exact h4) rfl hb hst) rfl hd hg rfl ?_
  refine hk _ _ ?_ (by simp) ?_
  ·refine .inr ⟨by simp [h1],S.length,hkS,by simp,?_⟩
   rw [Aag,if_pos ⟨rfl,by simp⟩]
  ·intro j hj
   rw [Aag,if_neg (by omega),Aag,if_neg (by omega),List.getElem?_append_left (by omega)]
section
variable {m:FM} {slot:Nat} {S:Store}
theorem AcI {sz b len lo' hi':Nat} {x:AOpd} {xl xh:Option AOpd} {rows:List (List AVal)} (hx:lo m x=some (.view b 0 len false)) (h1:S[b]?=some (some ⟨sz,rows⟩)) (h2:len≤rows.length)
 (hl:LoIs m xl lo' 0) (hh:LoIs m xh hi' len) (hlh:lo'≤hi') (hhl:hi'≤rows.length):OpR AP m slot S (.slice sz x xl xh none) (.view b lo' (hi' - lo') false) S ([b],[]) :=
 opr_r fun fr hfr n=>by
  have e1:abound (xl.map (opd fr)) 0 hi'=some lo':=by
   rcases hl with⟨rfl,rfl⟩ | ⟨a,k,rfl,hk⟩
   ·rfl
   ·simp only [Option.map_some,hfr.opd hk,abound];rw [if_pos (by omega)];simp
  have e2:abound (xh.map (opd fr)) len rows.length=some hi':=by
   rcases hh with⟨rfl,rfl⟩ | ⟨a,k,rfl,hk⟩
   ·rfl
   ·simp only [Option.map_some,hfr.opd hk,abound];rw [if_pos (by omega)];simp
  have e3:¬ (sz≠sz∨rows.length<len):=by omega
  have e0:abound none rows.length rows.length=some rows.length:=rfl
  simp only [semX,sem,hfr.opd hx,RM.run,h1,Option.map_none,Nat.sub_zero,Nat.zero_add,e0,e2,e1,if_neg e3,Option.isSome_none,Bool.false_or,Bool.or_false,Bool.and_false,Bool.false_eq_true,if_false]
theorem o_len_acc {AP:AaB} {k sz:Nat} {x:AOpd} {v:AVal} {rows:List (List AVal)} (hx:lo m x=some v) {S0:Store} (h:Acc k sz S0 v rows):OpR AP m slot S (.len false x) (.int .i64 rows.length) S ([],[]):=by
 rcases h with⟨rfl,rfl⟩ | ⟨_,b,_,rfl,_⟩
 ·exact o_len_nils hx
 ·exact o_len_view hx
end
section
variable {m:FM} {slot:Nat} {S:Store}
end
end
theorem tc_cut {AP:AaB} {N:Nat} {a b:Aaj} {m:FM} {S:Store} {Q:AbV→FM→Store→Prop} {σ:Type} (mf:σ→FM) (I:σ→Store→Prop)
 (h1:TC AP N a m S fun ex m' S'=>match ex with | .normal=>∃ s,Wk m' (mf s)∧I s S' | ex=>Q ex m' S') (h2:∀ s S',I s S'→TC AP N b (mf s) S' Q):TC AP N (.seq a b) m S Q:=by
 refine Aab (h1.mono ?_)
 intro ex m' S' h
 cases ex with
 | normal =>
   obtain⟨s,hw,hi⟩:=h
   exact TC.weaken hw (h2 s S' hi)
 | exit id=>exact h
 | ret=>exact h
theorem Aba {S:Store} {j:Nat} {x:Option ABlock} {r:List (Option ABlock)} (h:S[j]?=some x):(S++r)[j]?=some x:=by
 rw [List.getElem?_append_left (List.getElem?_eq_some_iff.1 h).1];exact h
end Go.Eng
namespace Go.Eng
open Go Go.RowKit Go.ChangeShapes Go.WideShapes
variable [Inhabited GlobT]
theorem Ext.below {w w':World} (h:Ext [] w [] w'):Below w.heap.size w w' where
 os:=h.env.1
 tape:=h.env.2.2
 output:=h.env.2.1
 size:=h.size
 block k hk:=(h.keep k (fun⟨b,x,hb,_⟩=>by simp at hb) hk).2
section
variable {H:Type} {enc:TypeId × Value→H} {P:Program}
theorem AiL (hl:laidOutB P=true) {W W':World} (hb:Below W.heap.size W W'):∀ {ts:List TypeId} {vs:List Value} {ds:List (DataW H)} {p:List MemPlace},(∀ t∈ts,P.readableRec t=true∧t<P.types.size) →
 DataW.TrodAll enc P W 0 (fun _=>true) true ts vs ds p→(∀ x∈p,x.block<W.heap.size)→DataW.TrodAll enc P W' 0 (fun b=>decide (b<W.heap.size)) true ts vs ds p
 | [],[],[],_,_,h,_=>h
 | t::ts,v::vs,d::ds,p,hr,h,hlt=>by
   obtain⟨p1,q,h1,h2,rfl⟩:=h
   obtain⟨r1,r2⟩:=hr t (by simp)
   exact⟨p1,q,Below.trod hl r1 r2 h1 hb (fun x hx=>hlt x (by simp [hx])),AiL hl hb (fun t ht=>hr t (by simp [ht])) h2 (fun x hx=>hlt x (by simp [hx])),rfl⟩
def readB (P:Program) (fn:Func):Bool:=fn.params.toList.all fun t=>P.readableRec t && decide (t<P.types.size)
def boolB (P:Program) (fn:Func):Bool:=match fn.resultTypes.toList with
 | [t]=>match P.underlying t with
   | some .bool=>true
   | _=>false
 | _=>false
theorem post_true {fn:Func} {s:ChangeSpec} {apart fresh handsOn:Bool} {W W':World} {args:Array Value} {ds gs:List (DataW H)} {before:List MemPlace}
 (hl:laidOutB P=true) (hrd:readB P fn=true) (hbl:boolB P fn=true) (hvars:s.vars=[])
 (hW:DataW.Whole enc P fn.params.toList s.vars apart W args.toList ds gs before) (hres:(s.fn H (ds++gs)).results=[.lit (.bool true)]) (hargs:(s.fn H (ds++gs)).args=ds) (hsv:(s.fn H (ds++gs)).vars=[])
 (he:Ext [] W [] W'):s.post enc P fn apart fresh handsOn false W args (.bool true) W':=by
 have hr:∀ t∈fn.params.toList,P.readableRec t=true∧t<P.types.size:=fun t ht=>by
  have:=List.all_eq_true.1 hrd t ht
  simp only [Bool.and_eq_true,decide_eq_true_eq] at this
  exact this
 obtain⟨tb,hrt,htb⟩:∃ tb,fn.resultTypes=#[tb]∧P.underlying tb=some .bool:=by
  unfold boolB at hbl
  split at hbl
  ·rename_i t ht
   refine⟨t,by rw [←Array.toList_inj];exact ht,?_⟩
   split at hbl
   ·rename_i h;exact h
   ·cases hbl
  ·cases hbl
 have hb:=he.below
 have hlt:=hW.lt
 have hW':=hW
 obtain⟨p,q,h1,h2,rfl,h3,h4⟩:=hW
 rw [hvars] at h2
 obtain⟨rfl,rfl⟩:=trodVars_none h2
 refine⟨ds,[],p++[],[],p,[],hW',?_,?_,?_,hb.frame _,fun h=>by cases h⟩
 ·rw [hres,hrt]
  exact trodAll_mk1 (shut_bool htb true)
 ·rw [hargs]
  exact AiL hl hb hr h1 (fun x hx=>hlt x (by simp [hx]))
 ·rw [hsv,hvars]
  rfl
theorem calls_true {AP:AaB} (hA:AOk P AP) {f:Nat} {fn:Func} (hf:P.funcs[f]?=some fn) {args:List AVal} {vs:List Value} {W:World} (hc:∃ n,AbF AP (exec AP n) f args=some (.bool true)) (hv:RepV [] (fun _=>False) W args vs) (hg:GOk (fun _=>False) W)
 (hbody:fn.body.isSome=true) (hname:(fn.name == "runtime.NumGoroutine")=false)
 {K:World→Prop} (hk:∀ W',Ext [] W [] W'→K W'):Calls P f vs.toArray W fun e W'=>∃ v,e = .returned v∧v = .bool true∧K W':=by
 obtain⟨n,hn⟩:=hc
 have hd:=call_sound hA hn (A:=fun _=>False) (fun c h=>h.elim) hg hv
 have hname':fn.name ≠ "runtime.NumGoroutine" := by simpa using hname
 rcases hd with⟨fn',h1,h2,h3,h4⟩ | ⟨v,w',h1,h2⟩
 ·refine h4.mono ?_
  rintro e W' ⟨v,rfl,he,hr⟩
  exact⟨v,rfl,hr,hk W' he⟩
 ·obtain⟨b,hb⟩:=Option.isSome_iff_exists.1 hbody
  simp [callFunc,hf,hname',hb] at h1
theorem repLL_ints {k:IntKind} {T:Nat→Prop} {W:World} {b:Nat}:∀ (zs:List Int) (o:Nat),(∀ i,i<zs.length→W.cell? ⟨b,o+i,none⟩=some (.int k (zs.getD i 0))) →
 Abz [] T W (zs.map fun n=>[.int k n]) 1 (fun n=>W.cell? ⟨b,o+n,none⟩)
 | [],_,_=>trivial
 | z::zs,o,h=>by
   refine⟨rfl,⟨⟨_,h 0 (by simp),rfl⟩,trivial⟩,?_⟩
   have:=repLL_ints (T:=T) zs (o+1) (fun i hi=>by have:=h (i+1) (by simp;omega);simpa [Nat.add_assoc,Nat.add_comm 1 i] using this)
   have e:(fun n=>W.cell? ⟨b,o+(n+1),none⟩)=fun n=>W.cell? ⟨b,o+1+n,none⟩:=by
    funext n;rw [Nat.add_assoc,Nat.add_comm 1 n]
   rw [e];exact this
theorem open_ints_rep {r:Reach} {b0:Nat} {t el:TypeId} {k:IntKind} {W:World} {sp:Nat→Bool} {v:Value} {d:DataW H} {ps:List MemPlace} (ht:P.underlying t=some (.slice el)) (he:P.underlying el=some (.int k)) (hc:P.cellsOf el=1)
 (hval:Value.okWide P W r b0 t v) (h:DataW.Trod enc P W 0 sp true t v d ps):∃ zs:List Int,Rep [] (fun _=>False) W (.imm (zs.map fun n=>[.int k n])) v∧(∀ n∈zs,(Lit.int k n).wf=true)∧zs.length≤maxLen:=by
 obtain⟨a0,len,cap,rfl⟩:=okWide_slice ht hval
 obtain⟨fuel,hf⟩:=h
 rcases open_ints ht he hc hf with⟨hcs,hx⟩ | ⟨a,len',cap',zs,hcs,_,hl,hm,hz,hx,hcell,hwz⟩
 ·simp [Value.cells] at hcs
  obtain⟨rfl,rfl,rfl⟩:=hcs
  exact⟨[],⟨none,0,0,rfl,rfl,Nat.le_refl _,fun _=>rfl,fun h=>absurd rfl h⟩,by simp,by simp⟩
 ·simp [Value.cells] at hcs
  obtain⟨rfl,rfl,rfl⟩:=hcs
  have hlz:len≤zs.length:=by rw [hz];split<;>omega
  refine⟨zs.take len,⟨some a,len,cap,rfl,by simp;omega,hl,fun h=>by simp at h,fun hne=>?_⟩,fun n hn=>hwz n (List.mem_of_mem_take hn),by simp;omega⟩
  have hlen:0<len:=by
   rcases Nat.eq_zero_or_pos len with h | h
   ·subst h;simp at hne
   ·exact h
  obtain⟨b,off,spot⟩:=a
  have hspot:spot=none:=by simpa [Addr.add] using World.cell?_spot (hcell 0 (by omega))
  subst hspot
  have hcell':∀ i,i<zs.length→W.cell? ⟨b,off+i,none⟩=some (.int k (zs.getD i 0)):=fun i hi=>by
   have:=hcell i hi
   rwa [add_plain] at this
  refine⟨1,b,off,rfl,?_,id,?_⟩
  ·have:=hcell' 0 (by omega)
   unfold World.cell? at this
   rcases Nat.lt_or_ge b W.heap.size with h | h
   ·exact h
   ·simp [Array.getElem?_eq_none h] at this
  ·refine repLL_ints (zs.take len) off fun i hi=>?_
   simp at hi
   rw [hcell' i (by omega)]
   have hil:i<len:=by omega
   simp [List.getD,List.getElem?_take,hil]
theorem repV_nil {T:Nat→Prop} {W:World}:RepV [] T W [] []:=⟨rfl,fun i a v h=>by simp at h⟩
theorem AmS {T:Nat→Prop} {W:World} {a:AVal} {v:Value} {as:List AVal} {vs:List Value} (h:Rep [] T W a v) (hr:RepV [] T W as vs):RepV [] T W (a::as) (v::vs) :=
 ⟨by simp [hr.1],fun i x u hx hu=>by
   cases i with
   | zero=>simp at hx hu;subst hx hu;exact h
   | succ i=>simp at hx hu;exact hr.2 i x u hx hu⟩
end
end Go.Eng
namespace Go.Eng
open Go Go.RowKit Go.ChangeShapes Go.WideShapes
variable [Inhabited GlobT]
inductive Shp where
 | int (k:IntKind)
 | bool
 | str
 | flt (k:FloatKind)
 | sl (row:List Shp)
mutual
def ShpA:Shp→AVal→Prop
 | .int k,a=>∃ n,a = .int k n∧(Lit.int k n).wf=true
 | .bool,a=>∃ b,a = .bool b
 | .str,a=>∃ s,a = .str s∧s.length≤maxLen
 | .flt k,a=>∃ n,a = .flt k n∧(Lit.float k n).wf=true
 | .sl ss,a=>∃ rows,a = .imm rows∧rows.length≤maxLen∧∀ r∈rows,AhF ss r
def AhF:List Shp→List AVal→Prop
 | [],as=>as=[]
 | s::ss,as=>∃ a r,as=a::r∧ShpA s a∧AhF ss r
end
def Amm (P:Program) (sub:TypeId→Option (List Shp)):Nat→List Field→Option (List Shp)
 | _,[]=>some []
 | off,f::fs=>if f.offset=off then match sub f.type with
    | some ms=>if P.cellsOf f.type=ms.length then (Amm P sub (off+ms.length) fs).map (ms++·) else none
    | none=>none
   else none
def Aml (P:Program):Nat→TypeId→Option (List Shp)
 | 0,_=>none
 | d+1,t=>match P.underlying t with
   | some (.int k)=>some [.int k]
   | some .bool=>some [.bool]
   | some .string=>some [.str]
   | some (.float k)=>some [.flt k]
   | some (.slice e)=>match Aml P d e with
     | some ss=>if P.cellsOf e=ss.length∧0<ss.length then some [.sl ss] else none
     | none=>none
   | some (.struct fs)=>match Amm P (Aml P d) 0 fs.toList with
     | some ss=>if P.cellsOf t=ss.length then some ss else none
     | none=>none
   | _=>none
section
variable {H:Type} {enc:TypeId × Value→H} {P:Program} {W:World} {sp:Nat→Bool} {T:Nat→Prop}
theorem AkS:∀ {ss ss':List Shp} {as as':List AVal},AhF ss as→AhF ss' as'→AhF (ss++ss') (as++as')
 | [],_,_,_,h,h'=>by simp only [AhF] at h;subst h;exact h'
 | s::ss,_,_,_,h,h'=>by
   simp only [AhF] at h
   obtain⟨a,r,rfl,h1,h2⟩:=h
   simp only [List.cons_append,AhF]
   exact⟨a,_,rfl,h1,AkS h2 h'⟩
theorem shpAs_len:∀ {ss:List Shp} {as:List AVal},AhF ss as→as.length=ss.length
 | [],_,h=>by simp only [AhF] at h;subst h;rfl
 | s::ss,_,h=>by
   simp only [AhF] at h
   obtain⟨a,r,rfl,h1,h2⟩:=h
   simp [shpAs_len h2]
def Opens (T:Nat→Prop) (W:World) (ss:List Shp) (cs:List Value):Prop:=∃ as,RepV [] T W as cs∧AhF ss as
theorem Afp {a:AVal} {v:Value} (h:Rep [] T W a v):RepV [] T W [a] [v]:=AmS h repV_nil
theorem repV_app {a b:List AVal} {x y:List Value} (h:RepV [] T W a x) (h':RepV [] T W b y):RepV [] T W (a++b) (x++y):=h.append h'
theorem opens_fs {n:Nat} {sub:TypeId→Option (List Shp)} (ih:∀ t ss cs x,sub t=some ss→DataW.trod enc P W 0 sp true n t cs=some x→Opens T W ss cs) {cs:List Value} :
 ∀ (fs:List Field) (off:Nat) (ss:List Shp),Amm P sub off fs=some ss→(∀ f∈fs,∃x,DataW.trod enc P W 0 sp true n f.type ((cs.drop f.offset).take (P.cellsOf f.type))=some x) →
  cs.length=off+ss.length→Opens T W ss (cs.drop off)
 | [],off,ss,h,_,hl=>by
   simp only [Amm,Option.some.injEq] at h;subst h
   rw [List.drop_of_length_le (by simp at hl;omega)]
   exact⟨[],repV_nil,rfl⟩
 | f::fs,off,ss,h,hx,hl=>by
   simp only [Amm] at h
   split at h
   ·rename_i ho
    split at h
    ·rename_i ms hms
     split at h
     ·rename_i hc
      simp only [Option.map_eq_some_iff] at h
      obtain⟨rs,hrs,rfl⟩:=h
      obtain⟨x,hxx⟩:=hx f (by simp)
      obtain⟨as,h1,h2⟩:=ih _ _ _ _ hms hxx
      obtain⟨bs,h3,h4⟩:=opens_fs ih (cs:=cs) fs (off+ms.length) rs hrs (fun g hg=>hx g (by simp [hg])) (by simp at hl;omega)
      refine⟨as++bs,?_,AkS h2 h4⟩
      have e:cs.drop off=(cs.drop f.offset).take (P.cellsOf f.type)++cs.drop (off+ms.length):=by
       rw [ho,hc,←List.drop_drop,List.take_append_drop]
      rw [e]
      exact repV_app h1 h3
     ·cases h
    ·cases h
   ·cases h
theorem repL_of_cells {b o:Nat} {as:List AVal} {cs:List Value} (h:RepV [] T W as cs) (hc:∀ i,i<cs.length→W.cell? ⟨b,o+i,none⟩=cs[i]?):RepL [] T W as (fun n=>W.cell? ⟨b,o+n,none⟩):=by
 induction as generalizing cs o with
 | nil=>trivial
 | cons a as ih =>
   obtain⟨hl,hr⟩:=h
   cases cs with
   | nil=>simp at hl
   | cons v vs =>
     refine⟨⟨v,by have:=hc 0 (by simp);simpa using this,hr 0 a v rfl rfl⟩,?_⟩
     have:=ih (cs:=vs) (o:=o+1) ⟨by simpa using hl,fun i x u hx hu=>hr (i+1) x u (by simpa using hx) (by simpa using hu)⟩
      (fun i hi=>by have:=hc (i+1) (by simp;omega);simpa [Nat.add_assoc,Nat.add_comm 1 i] using this)
     have e:(fun n=>W.cell? ⟨b,o+(n+1),none⟩)=fun n=>W.cell? ⟨b,o+1+n,none⟩:=by
      funext n;rw [Nat.add_assoc,Nat.add_comm 1 n]
     rw [e];exact this
theorem trod_flt {k:FloatKind} {t:TypeId} {fuel:Nat} {cs:List Value} {x:DataW H × List MemPlace} (ht:P.underlying t=some (.float k)) (h:DataW.trod enc P W 0 sp true fuel t cs=some x):∃ n,cs=[.float k n]∧(Lit.float k n).wf=true:=by
 cases fuel with
 | zero=>simp [DataW.trod] at h
 | succ n =>
   unfold DataW.trod at h
   rw [ht] at h
   split at h<;>simp_all
theorem opens_t:∀ (d:Nat) (fuel:Nat) (t:TypeId) (ss:List Shp) (cs:List Value) (x:DataW H × List MemPlace),Aml P d t=some ss→DataW.trod enc P W 0 sp true fuel t cs=some x→Opens (fun _=>False) W ss cs
 | 0,_,_,_,_,_,h,_=>by simp [Aml] at h
 | d+1,fuel,t,ss,cs,x,h,hx=>by
   simp only [Aml] at h
   split at h
   ·rename_i k ht
    cases h
    obtain⟨n,rfl,_,hw⟩:=DataW.trod_int ht hx
    exact⟨[.int k n],Afp rfl,⟨_,_,rfl,⟨n,rfl,hw⟩,rfl⟩⟩
   ·rename_i ht
    cases h
    obtain⟨b,rfl,_⟩:=DataW.trod_bool ht hx
    exact⟨[.bool b],Afp rfl,⟨_,_,rfl,⟨b,rfl⟩,rfl⟩⟩
   ·rename_i ht
    cases h
    obtain⟨s,rfl,_,hs⟩:=DataW.trod_string ht hx
    exact⟨[.str s.data.toList],Afp ⟨s,rfl,rfl⟩,⟨_,_,rfl,⟨_,rfl,by rw [Array.length_toList];exact hs⟩,rfl⟩⟩
   ·rename_i k ht
    cases h
    obtain⟨n,rfl,hw⟩:=trod_flt ht hx
    exact⟨[.flt k n],Afp rfl,⟨_,_,rfl,⟨n,rfl,hw⟩,rfl⟩⟩
   ·rename_i e ht
    split at h
    ·rename_i es hes
     split at h
     ·rename_i hc
      cases h
      rcases DataW.trod_slice ht hx with⟨rfl,_⟩ | ⟨a,len,cap,elems,rest,n,rfl,rfl,_,_,hl,hm,hlen,hel,_,_⟩
      ·exact⟨[.imm []],Afp ⟨none,0,0,rfl,rfl,Nat.le_refl _,fun _=>rfl,fun h=>absurd rfl h⟩,⟨_,_,rfl,⟨[],rfl,by simp,by simp⟩,rfl⟩⟩
      ·obtain⟨b,off,spot⟩:=a
       rcases Nat.eq_zero_or_pos len with h0 | hpos
       ·subst h0
        exact⟨[.imm []],Afp ⟨some ⟨b,off,spot⟩,0,cap,rfl,rfl,hl,fun h=>by simp at h,fun h=>absurd rfl h⟩,⟨_,_,rfl,⟨[],rfl,by simp,by simp⟩,rfl⟩⟩
       have row:∀ i,i<len→∃ cs',W.cells? 0 ((⟨b,off,spot⟩:Addr).add (i*P.cellsOf e)) (P.cellsOf e)=some cs'∧Opens (fun _=>False) W es cs':=by
        intro i hi
        have h1:=hel i hi
        rw [List.getElem?_eq_getElem (by omega),Option.bind_eq_some_iff] at h1
        obtain⟨cs',h2,h3⟩:=h1
        exact⟨cs',h2,opens_t d n e es cs' _ hes h3⟩
       have hspot:spot=none:=by
        obtain⟨cs',h1,_⟩:=row 0 hpos
        have:=(World.cells?_some h1).2.2 0 (by omega)
        simp only [Nat.zero_mul] at this
        have h2:((⟨b,off,spot⟩:Addr).add 0).add 0=⟨b,off,spot⟩:=by simp [Addr.add]
        have hl9:=(World.cells?_some h1).2.1
        rw [h2,List.getElem?_eq_getElem (show 0<cs'.length by omega)] at this
        have h3:=World.cell?_spot this
        simpa using h3
       subst hspot
       have rows:∀ m,m≤len→∃ rows:List (List AVal),rows.length=m∧Abz [] (fun _=>False) W rows es.length (fun n=>W.cell? ⟨b,off+(len - m)*es.length+n,none⟩)∧∀ r∈rows,AhF es r:=by
        intro m
        induction m with
        | zero=>intro _;exact⟨[],rfl,trivial,by simp⟩
        | succ m ihm =>
          intro hmm
          obtain⟨rs,g1,g2,g3⟩:=ihm (by omega)
          obtain⟨cs',h1,as,h2,h3⟩:=row (len - (m+1)) (by omega)
          refine⟨as::rs,by simp [g1],⟨shpAs_len h3,?_,?_⟩,?_⟩
          ·have hcc:=World.cells?_some h1
           refine repL_of_cells h2 fun i hi=>?_
           have hil:cs'.length=P.cellsOf e:=hcc.2.1
           have:=hcc.2.2 i (by omega)
           rw [add_plain,add_plain,hc.1] at this
           rw [this]
          ·have e1:(fun n=>W.cell? ⟨b,off+(len - (m+1))*es.length+(n+es.length),none⟩)=fun n=>W.cell? ⟨b,off+(len - m)*es.length+n,none⟩:=by
            funext n
            have:len - m=(len - (m+1))+1:=by omega
            rw [this,Nat.succ_mul]
            congr 2
            omega
           rw [e1];exact g2
          ·intro r hr
           rcases List.mem_cons.1 hr with rfl | hr
           ·exact h3
           ·exact g3 r hr
       obtain⟨rs,g1,g2,g3⟩:=rows len (Nat.le_refl _)
       rw [Nat.sub_self,Nat.zero_mul,Nat.add_zero] at g2
       refine⟨[.imm rs],Afp ⟨some ⟨b,off,none⟩,len,cap,rfl,g1.symm,hl,fun h=>by simp at h,fun _=>⟨es.length,b,off,rfl,?_,id,g2⟩⟩,⟨_,_,rfl,⟨rs,rfl,by omega,g3⟩,rfl⟩⟩
       obtain⟨cs',h1,_⟩:=row 0 hpos
       have:=(World.cells?_some h1).2.2 0 (by omega)
       rcases Nat.lt_or_ge b W.heap.size with h | h
       ·exact h
       ·exfalso
        simp only [Nat.zero_mul] at this
        simp [Addr.add,World.cell?,Array.getElem?_eq_none h] at this
        have h9:=(World.cells?_some h1).2.1
        rw [this,hc.1] at h9
        simp at h9
        omega
     ·cases h
    ·cases h
   ·rename_i fs ht
    split at h
    ·rename_i ss' hss
     split at h
     ·rename_i hc
      cases h
      obtain⟨xs,n,rfl,_,hcl,hxl,hf⟩:=DataW.trod_struct ht hx
      have:=opens_fs (enc:=enc) (sp:=sp) (T:=fun _=>False) (cs:=cs) (n:=n) (fun t ss cs x h1 h2=>opens_t d n t ss cs x h1 h2) fs.toList 0 _ hss (fun f hfm=>by
       obtain⟨i,hi⟩:=List.getElem?_of_mem hfm
       have hi':fs[i]?=some f:=by simpa using hi
       have hlt:i<xs.length:=by rw [hxl];exact(Array.getElem?_eq_some_iff.1 hi').1
       exact⟨xs[i],by rw [hf i f hi',List.getElem?_eq_getElem hlt]⟩) (by rw [hcl,hc];omega)
      simpa using this
     ·cases h
    ·cases h
   ·cases h
end
end Go.Eng
namespace Go.Eng
open Go
variable [Inhabited GlobT]
def KeepDoes (P:Program) (f:FuncId) (args:List AVal) (S:Store) (r:AVal) (S1:Store):Prop :=
 ∀ (A:Nat→Prop) (κ:Kap) (w:World) (vs:List Value),RS A κ S w→RepV κ (Avoid A κ) w args vs →
  Does P f vs.toArray w fun v w'=>∃ κ',Ext κ w κ' w'∧RS A κ' S1 w'∧Rep κ' (Avoid A κ') w' r v
def Ahg (g:List AVal→Store→Option (AVal × Store)):Prim:=fun slot args =>
 (Adm args 0).bind fun r=>if nodup r.2.2 then
   match g r.1 (r.2.1.map some) with
   | some (v,S)=>AjV slot r.2.2 v S
   | none => .fail
 else .fail
theorem primKeep_ok {P:Program} {f:FuncId} {g:List AVal→Store→Option (AVal × Store)} (hg:∀ args S v S1,g args S=some (v,S1)→KeepDoes P f args S v S1):AcA P f (Ahg g):=by
 intro A κ S w slot all vs e rds h hS hs hv
 show Does P f vs.toArray w fun v w'=>CRes A κ S w slot e v w'
 unfold Ahg at h
 obtain⟨⟨as,blks,ids⟩,i1,i2,h1,h2,-⟩:=run_bind h
 simp only at h2
 clear h
 split at h2
 ·rename_i hnd
  split at h2
  ·rename_i v0 S1 hc
   obtain⟨g1,g2,g3⟩:=AdO hS all 0 as blks ids _ h1 ⟨_,hv⟩
   let κ0:Kap:=(List.range ids.length).map fun i=>((ids[i]?).bind fun b=>κ[b]?).getD none
   have hid:∀ (i:Nat) b,ids[i]?=some b→∃ x,κ[b]?=some (some (some x)):=fun i b hb=>by
    obtain⟨_,x,_,_,hx,_⟩:=g2 i b hb;exact⟨x,hx⟩
   have hκ0:∀ (i:Nat),κ0[i]?=(ids[i]?).bind fun b=>κ[b]?:=by
    intro i
    simp only [κ0,List.getElem?_map]
    rcases Nat.lt_or_ge i ids.length with hl | hl
    ·rw [List.getElem?_range hl]
     have hi:ids[i]?=some ids[i]:=by simp [hl]
     obtain⟨x,hx⟩:=hid i _ hi
     simp only [Option.map_some,hi,Option.bind_some,hx,Option.getD_some]
    ·rw [List.getElem?_eq_none (by simp;exact hl),List.getElem?_eq_none hl];rfl
   have h0:∀ c,Trk κ0 c→Trk κ c:=by
    rintro c ⟨i,x,hi,hx⟩
    rw [hκ0] at hi
    cases hb:ids[i]? with
    | none=>simp [hb] at hi
    | some b=>simp [hb] at hi;exact⟨b,x,hi,hx⟩
   have hav:∀ c,¬ Avoid A κ c→¬ Avoid (fun c=>Avoid A κ c∧¬ Trk κ0 c) κ0 c:=by
    rintro c hc (h | h)
    ·exact hc h.1
    ·exact hc (.inr (h0 c h))
   have hlen0:κ0.length=ids.length:=by simp [κ0]
   have hS0:RS (fun c=>Avoid A κ c∧¬ Trk κ0 c) κ0 (blks.map some) w:=by
    refine⟨by simp [hlen0,g1],?_,?_,?_,fun c hc=>⟨hS.avoid_lt c hc.1,hc.2⟩,hS.gl.weak fun c hc=>Classical.byContradiction fun h=>hav c h hc⟩
    ·intro i hi
     rw [List.getElem?_map] at hi
     cases hb:blks[i]?<;>simp [hb] at hi
    ·intro i blk hi
     rw [List.getElem?_map] at hi
     cases hb:blks[i]? with
     | none=>simp [hb] at hi
     | some blk' =>
       simp [hb] at hi;subst hi
       have hl:i<ids.length:=by rw [←g1];exact(List.getElem?_eq_some_iff.1 hb).1
       have hi:ids[i]?=some ids[i]:=by simp [hl]
       obtain⟨blk2,x,q1,q2,q3,q4,q5⟩:=g2 i _ hi
       rw [hb] at q1;cases q1
       obtain⟨x',hx',hok⟩:=hS.live _ _ q2
       rw [q3] at hx';cases hx'
       refine⟨x,by rw [hκ0,hi];simpa using q3,hok.sz,hok.rn,hok.cells',Aci hav _ _ _ q4 hok.rep,hok.ty,by rw [q5];trivial,hok.exr⟩
    ·intro i j x y hi hj he
     rw [hκ0] at hi hj
     cases hbi:ids[i]? with
     | none=>simp [hbi] at hi
     | some bi =>
       cases hbj:ids[j]? with
       | none=>simp [hbj] at hj
       | some bj =>
         simp [hbi] at hi;simp [hbj] at hj
         have:=hS.inj _ _ _ _ hi hj he
         subst this
         exact AjT hnd i j _ hbi hbj
   have hargs:=g3 κ0 (Avoid (fun c=>Avoid A κ c∧¬ Trk κ0 c) κ0) (fun i b hb=>by rw [Nat.zero_add,hκ0,hb];rfl) hav vs hv
   refine(hg _ _ _ _ hc _ _ _ _ hS0 hargs).mono ?_
   rintro u w' ⟨κ1,k1,k2,k3⟩
   obtain⟨b1,b2,b3⟩:=keep_back (S:=S) hS hκ0 hid k1 k2
   have hkfree:∀ (j:Nat),κ[j]?=some none→(Ada κ ids)[j]?=some none:=by
    intro j hj
    rw [AcT,if_neg]
    ·exact hj
    ·rintro⟨hm,_⟩
     obtain⟨i,hi⟩:=List.mem_iff_getElem?.1 hm
     obtain⟨x,hx⟩:=hid i j hi
     rw [hj] at hx;cases hx
   unfold AjV at h2
   split at h2
   ·rename_i j off len full
    split at h2
    ·rename_i blk hj
     split at h2
     ·rename_i hrn
      simp only [RM.run,Option.some.injEq,Prod.mk.injEq] at h2
      obtain⟨rfl,-⟩:=h2
      obtain⟨x1,hx1,hok1⟩:=k2.live j blk hj
      have hex1:blk.exOf = .no:=by
       obtain⟨ev9,cb9,of9,cap9,z1,z2,z3⟩:=k3
       rw [hx1] at z1;cases z1
       obtain⟨_,_,_,_,el9,n9,z4,_⟩:=z3 x1 rfl
       exact hok1.no_shape z4
      have hs':=hkfree slot hs
      have hna:¬ Avoid A (Ada κ ids) x1.cb:=fun hc=>(k2.av _ (b3 _ hc)).2 ⟨j,x1,hx1,rfl⟩
      have htrk:∀ c,Avoid A ((Ada κ ids).set slot (some (some x1))) c→Avoid (fun c=>Avoid A κ c∧¬ Trk κ0 c) κ1 c:=by
       rintro c (hc | ⟨i,y,hi,rfl⟩)
       ·exact .inl (b3 c (.inl hc))
       ·rw [Aag] at hi
        split at hi
        ·cases hi;exact .inr ⟨j,x1,hx1,rfl⟩
        ·exact .inl (b3 _ (.inr ⟨i,y,hi,rfl⟩))
      have hklen:slot<(Ada κ ids).length:=(List.getElem?_eq_some_iff.1 hs').1
      have hext2:Ext κ w ((Ada κ ids).set slot (some (some x1))) w':=by
       refine⟨fun b ev hb=>?_,b1.size,fun c hn hl=>⟨?_,(b1.keep c hn hl).2⟩,b1.shape,b1.env⟩
       ·obtain⟨ev',e1,e2⟩:=b1.kle b ev hb
        refine⟨ev',?_,e2⟩
        rw [Aag,if_neg]
        ·exact e1
        ·rintro⟨rfl,_⟩;rw [hs'] at e1;cases e1
       ·rintro⟨i,y,hi,hy⟩
        rw [Aag] at hi
        split at hi
        ·cases hi
         exact(k1.keep c (fun h=>hn (h0 c h)) hl).1 ⟨j,x1,hx1,hy⟩
        ·exact(b1.keep c hn hl).1 ⟨i,y,hi,hy⟩
      have hsub:∀ c,¬ Avoid (fun c=>Avoid A κ c∧¬ Trk κ0 c) κ1 c→¬ Avoid A ((Ada κ ids).set slot (some (some x1))) c:=fun c hc h=>hc (htrk c h)
      refine⟨(Ada κ ids).set slot (some (some x1)),hext2,?_,?_,fun i hi hn=>?_⟩
      ·refine rs_import b2 hs' (k2.lt hx1) hna hok1.sz hok1.rn hex1 (hok1.cells hex1) (Aci hsub _ _ _ hrn hok1.rep) hok1.ty (k2.gl.weak htrk) ?_
       intro b blk' hb y hy _
       rw [AbY] at hb
       split at hb
       ·cases hb
       ·rename_i hnn
        obtain⟨y',hy',hok⟩:=hS.live b blk' hb
        rw [AcT] at hy
        split at hy
        ·cases hy
        ·rw [hy'] at hy;cases hy
         have hl:b<S.length:=(List.getElem?_eq_some_iff.1 hb).1
         have hni:b ∉ ids:=fun hm=>hnn ⟨hm,hl⟩
         have hnt:¬ Trk κ0 y.cb:=by
          rintro⟨i,z,hi,hz⟩
          rw [hκ0] at hi
          cases hbi:ids[i]? with
          | none=>simp [hbi] at hi
          | some bi =>
            simp [hbi] at hi
            have:=hS.inj _ _ _ _ hi hy' hz
            subst this
            exact hni (List.mem_of_getElem? hbi)
         exact hok.mono hext2 (k1.keep _ hnt (hS.lt hy')).2
      ·obtain⟨ev,cb,of,cap,q1,rfl,q3⟩:=k3
       rw [hx1] at q1;cases q1
       obtain⟨p1,p2,p3,p4,p5⟩:=q3 x1 rfl
       exact⟨some x1,cb,of,cap,AiQ hs',rfl,fun y hy=>by cases hy;exact⟨p1,p2,p3,p4,p5⟩⟩
      ·rw [Aag,if_neg (fun h=>hi h.1.symm)]
       exact hkfree i hn
     ·exact(Aaf h2).elim
    ·exact(Aaf h2).elim
   ·rename_i hr0
    split at h2
    ·rename_i hrn
     simp only [RM.run,Option.some.injEq,Prod.mk.injEq] at h2
     obtain⟨rfl,-⟩:=h2
     exact⟨Ada κ ids,b1,b2,Aea (fun c hc h=>hc (.inl (b3 c h))) _ _ hrn k3,fun j _ hj=>hkfree j hj⟩
    ·exact(Aaf h2).elim
  ·exact(Aaf h2).elim
 ·exact(Aaf h2).elim
end Go.Eng
namespace Go.Eng
open Go
variable [Inhabited GlobT]
section
variable {P:Program} {AP:AaB} (hA:AOk P AP)
section
variable {A:Nat→Prop} {κ:Kap} {S:Store} {w:World} {N:Nat} {fr:List AVal} {a:Act} {ops:Array Oper}
theorem Age {rec:Rec} (hA:AOk P AP) (hrec:AeF P rec) {Q:Exit→Act→World→Prop} {rest:List Nat}:∀ (l:List Oper) (k:Nat) (is:List Aaq) (st st':St) (κ:Kap) (a:Act) (w:World),(∀ (j:Nat) o,l[j]?=some o→ops[k+j]?=some o)→compileSeq P ops l=some is→RS A κ st.S w→RF A κ w N st.fr a →
 stepL AP rec N is st=some st'→(∀ a' w' κ',Ext κ w κ' w'→RS A κ' st'.S w'→RF A κ' w' N st'.fr a'→wpOps P ops Q rest a' w')→wpOps P ops Q (List.range' k l.length++rest) a w
 | [],k,is,st,st',κ,a,w,hl,hc,hS,hF,h,hq=>by
   simp [compileSeq] at hc;subst hc
   simp [stepL] at h;subst h
   simpa using hq a w κ (.refl _ _) hS hF
 | o::l,k,is,st,st',κ,a,w,hl,hc,hS,hF,h,hq=>by
   simp only [compileSeq] at hc
   split at hc
   ·rename_i i is' h1 h2
    cases hc
    simp only [stepL] at h
    split at h
    ·rename_i st1 hst
     rw [List.length_cons,List.range'_succ,List.cons_append,wpOps_cons]
     refine step1_wp hA hrec (by have:=hl 0 o rfl;simpa using this) h1 hS hF hst ?_
     intro a' w' κ' k1 k2 k3
     exact Age hA hrec l (k+1) is' st1 st' κ' a' w' (fun j o' hj=>by have:=hl (j+1) o' hj;simpa [Nat.add_assoc,Nat.add_comm 1 j] using this) h2 k2 k3 h
      (fun a'' w'' κ'' q1 q2 q3=>hq a'' w'' κ'' (k1.ext.trans q1) q2 q3)
    ·cases h
   ·cases hc
end
theorem AcV {P:Program} {ops:Array Oper}:∀ (is1 is2:List Aaq) (l:List Oper),compileSeq P ops l=some (is1++is2)→∃ l1 l2,l=l1++l2∧compileSeq P ops l1=some is1∧compileSeq P ops l2=some is2∧l1.length=is1.length
 | [],is2,l,h=>⟨[],l,rfl,rfl,h,rfl⟩
 | y::is1,is2,[],h=>by simp [compileSeq] at h
 | y::is1,is2,x::l,h=>by
   simp only [compileSeq] at h
   split at h
   ·rename_i j js g1 g2
    simp only [List.cons_append,Option.some.injEq,List.cons.injEq] at h
    obtain⟨rfl,rfl⟩:=h
    obtain⟨l1,l2,rfl,e1,e2,e3⟩:=AcV is1 is2 l g2
    exact⟨x::l1,l2,rfl,by simp only [compileSeq,g1,e1],e2,by simp [e3]⟩
   ·cases h
theorem Ais {P:Program} {ops:Array Oper}:∀ (is:List Aaq) (l:List Oper),compileSeq P ops l=some is→l.length=is.length
 | [],[],_=>rfl
 | _::_,[],h=>by simp [compileSeq] at h
 | [],x::l,h=>by simp only [compileSeq] at h;split at h<;>cases h
 | y::is,x::l,h=>by
   simp only [compileSeq] at h
   split at h
   ·rename_i j js g1 g2
    cases h
    simp [Ais _ l g2]
   ·cases h
end
end Go.Eng
namespace Go.Eng
open Go
variable [Inhabited GlobT]
section
variable {P:Program} {A:Nat→Prop} {κ:Kap} {S:Store} {w w':World} {N:Nat} {fr:List AVal} {a:Act} {o:Oper} {slot:Nat} {T:Nat→Prop}
end
end Go.Eng
namespace Go.Eng
open Go
variable [Inhabited GlobT]
theorem tl_acc3 {AP:AaB} {N:Nat} {d:Option Nat} {k sz bytes:Nat} {x y:AOpd} {v vy:AVal} {rows new:List (List AVal)} {g:Option (Nat × Bool)} {un:List Nat} {l:List Aaq} {m:FM} {S:Store} {K:FM→Store→Prop}
 (hx:lo m x=some v) (hy:lo m y=some vy) (hacc:Acc k sz S v rows) (hr:rowsOf sz vy = .ok new) (hne:new≠[]) (hst:(new.all fun r=>r.all storable)=true) (hb:(rows.length+new.length)*bytes≤17592186044416) (hkS:k≤S.length)
 (hd:(d.all fun d=>d<N)=true) (hg:gd m g=some true)
 (hk:∀ v' S',Acc k sz S' v' (rows++new)→S'.length=S.length+1→(∀ j,j<S.length→(∀ off len full,v ≠ .view j off len full)→S'[j]?=S[j]?)→TL AP N l (putM m d v') S' K):TL AP N (⟨d,.append sz bytes x y,g,un⟩::l) m S K:=by
 rcases hacc with⟨rfl,rfl⟩ | ⟨h1,b,h2,rfl,h4⟩
 ·refine Abh (AcR hx hy hr hne (by simp at hb;omega)) rfl hd hg rfl ?_
  refine hk _ _ ?_ (by simp) ?_
  ·refine .inr ⟨by simpa using hne,S.length,hkS,by simp,?_⟩
   simp
  ·intro j hj _
   rw [AbC,List.getElem?_append_left (by omega)]
 ·have hbl:b<S.length:=(List.getElem?_eq_some_iff.1 h4).1
  refine Abh (AdN hx hy hr hne (rows0:=rows) (by rw [List.getElem?_append_left hbl];exact h4) rfl hb hst) rfl hd hg rfl ?_
  refine hk _ _ ?_ (by simp) ?_
  ·refine .inr ⟨by simp [h1],S.length,hkS,by simp,?_⟩
   rw [Aag,if_pos ⟨rfl,by simp⟩]
  ·intro j hj hv
   have hjb:j≠b:=fun h=>hv 0 rows.length false (by rw [h])
   rw [Aag,if_neg (by omega),Aag,if_neg (by omega),List.getElem?_append_left (by omega)]
end Go.Eng
