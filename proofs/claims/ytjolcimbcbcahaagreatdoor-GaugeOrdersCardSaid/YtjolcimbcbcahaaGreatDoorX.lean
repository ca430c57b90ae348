/- A library function at the nil slice, by the kit's contract; no condition. -/
import Derived.Test.YtjolcimbcbcahaaGreatDoorE6
import Derived.Shelf.Spec.SlicesGrow
set_option linter.unusedSectionVars false
set_option linter.unusedVariables false
set_option linter.unusedSimpArgs false
set_option linter.unnecessarySimpa false
namespace Go.Eng
open Go Go.RowKit
variable [Inhabited GlobT]
theorem gr_alloc {A:Nat→Prop} {κ:Kap} {S:Ab} {w w':World} (h:RS A κ S w) {slot:Nat} (hs:κ[slot]?=some none) {c:Array Value} {el:TypeId} {lo hi:Nat} {sz:Nat} {rows:List (List Zv)}
 (hw:w'.heap=w.heap.push (.cells c el (lo,hi))) (henv:Env w w') (hfz:∀ i,i<c.size+(if sz=1 then 0 else 1)→¬ (lo≤i∧i<hi)) (hsz:rows.length*sz≤c.size)
 (hr:AT κ (Avoid A κ) w rows sz (fun n=>c[n]?)) :
 Ext κ w (κ.set slot (some (some ⟨w.heap.size,0,sz,rows.length⟩))) w' ∧
  RS A (κ.set slot (some (some ⟨w.heap.size,0,sz,rows.length⟩))) (S.set slot (some ⟨sz,rows⟩)) w' :=
 Asw _ h hs Ban hw henv hfz hsz hr
theorem gr_allocs {AP:Aaa} {f:Nat} {p:Prim} {a b:List Zv} {xs:List Ag} (hp:AP.prim f=some p):AA AP (.call (.c (.fn (.func f) a b)) xs)=true:=by
 simp only [AA,hp];split<;>rfl
theorem gr_keepn {AP:Aaa} {m:FM} {slot:Nat} {S:Ab} {args:List Ag} {f:Nat} {av:List Zv} {r:Zv} {S1:Ab} (ha:los m args=some av) (hp:AP.prim f=none) (hke:AP.keep f=true) (hn:norefL av=true) (hs:(AP.split f && isSplitArg av)=false)
 (hc:CallSR AP f av [] r S1) (hr:r.noref=true) :
 OpR AP m slot S (.call (.c (.fn (.func f) [] [])) args) r S ([],[]):=fun fr hfr =>
 ⟨⟨r,none,[]⟩,by
   refine hc.map fun n hn'=>?_
   have hk:AgR slot [] r S1 = .ok ⟨r,none,[]⟩:=by
    cases r<;>simp only [AgR,Zv.noref,Bool.false_eq_true] at hr ⊢<;>simp [hr]
   simp only [Av,opd,hfr.opds ha,AbX,hp,hke,if_true,List.nil_append,List.append_nil,Aew,hs,Bool.false_eq_true,if_false,AgB av 0 hn,RM.bind,BaR,List.map_nil,hn',hk,RM.run],rfl,rfl,rfl⟩
def growP:Prim:=fun slot args=>match args with
 | [.nils,.int .i64 n]=>if n=0 then .ok ⟨.nils,none,[]⟩ else if 0<n∧n≤1000000 then .ok ⟨.view slot 0 0 false,some ⟨1,[]⟩,[]⟩ else .fail
 | _ => .fail
theorem growP_ok {P:Program} {ρ:Go.Shelf.Ren} (L:Go.Proofs.Lays8.n4 P ρ) {fn:Func} (hf:P.funcs[ρ.f 4]?=some fn) (hname:(fn.name == "runtime.NumGoroutine")=false) (hb:fn.body.isSome=true)
 {i0:TypeInfo} {z:Value} (hi0:P.info? (ρ.t 25)=some i0) (hz0:i0.zero=some z) (hs0:i0.size=1) (hb0:i0.bytes=8) (hzc:z.cells.size=1):Abj P (ρ.f 4) growP:=by
 intro A κ S w slot args vs e rds hr hS hs hv
 unfold growP at hr
 split at hr
 ·rename_i n
  match vs,hv with
  | [v1,v2],hv =>
    have h1:v1 = .slice none 0 0:=hv.head
    have h2:v2 = .int .i64 n:=hv.tail.head
    subst h1 h2
    refine AiG hf hname hb ?_
    by_cases hn:n=0
    ·rw [if_pos hn] at hr
     simp only [RM.run,Option.some.injEq,Prod.mk.injEq] at hr
     obtain⟨rfl,-⟩:=hr
     subst hn
     refine(Go.Proofs.Any8.slices_Grow_room L none 0 0 0 w (Nat.le_refl _) (by omega) (by omega) (by omega)).mono ?_
     rintro e w' ⟨rfl,rfl⟩
     exact⟨_,rfl,κ,.refl _ _,hS,rfl,fun j _ hj=>hj⟩
    ·rw [if_neg hn] at hr
     split at hr
     ·rename_i hc
      simp only [RM.run,Option.some.injEq,Prod.mk.injEq] at hr
      obtain⟨rfl,-⟩:=hr
      obtain⟨k,rfl⟩:∃ k:Nat,n=k:=⟨n.toNat,by omega⟩
      refine(Go.Proofs.Any8.slices_Grow_grow L i0 z hi0 hz0 (by omega) none 0 0 k [] w (Nat.le_refl _) (by omega) (by rw [hb0];omega) (by omega) (by simp) (fun _=>rfl) (fun a ha=>by cases ha)).mono ?_
      rintro e w' ⟨rfl,rfl⟩
      have hk:=grownCap_ge w (0+k) 0 (ρ.t 25)
      obtain⟨c,hc⟩:∃ c,c=grownCap w (0+k) 0 (ρ.t 25):=⟨_,rfl⟩
      rw [←hc] at hk ⊢
      obtain⟨cs,hcs⟩:∃ cs,cs=(([]:List Value).toArray++Builtin.zeroCells z.cells (0+k - 0)++Builtin.zeroCells z.cells (c - (0+k))):=⟨_,rfl⟩
      rw [←hcs]
      have hsz:cs.size=c:=by rw [hcs];simp [Builtin.zeroCells,hzc];omega
      have hw:(w.drew.alloc (.cells cs (ρ.t 25))).heap=w.heap.push (.cells cs (ρ.t 25) (0,0)):=rfl
      obtain⟨g1,g2⟩:=gr_alloc hS hs hw ⟨rfl,rfl,rfl⟩ (by omega) (sz:=1) (rows:=[]) (by simp) trivial
      exact⟨_,rfl,_,g1,g2,ApC hs hw (by omega) (by simp) (by simp) (by omega),fun j hj hn=>by rw [Af,if_neg (fun h=>hj h.1.symm)];exact hn⟩
     ·exact(Aa hr).elim
  | [],hv=>have:=hv.1;simp at this
  | [_],hv=>have:=hv.1;simp at this
  | _::_::_::_,hv=>have:=hv.1;simp at this
 ·exact(Aa hr).elim
theorem growP_wr:Ayt growP:=by
 intro slot args S e rds h x hx
 unfold growP at h
 split at h
 ·split at h
  ·simp only [RM.run,Option.some.injEq,Prod.mk.injEq] at h
   obtain⟨rfl,-⟩:=h
   simp at hx
  ·split at h
   ·simp only [RM.run,Option.some.injEq,Prod.mk.injEq] at h
    obtain⟨rfl,-⟩:=h
    simp at hx
   ·exact(Aa h).elim
 ·exact(Aa h).elim
theorem tl_grow {AP:Aaa} {m:FM} {S:Ab} {N:Nat} {d:Option Nat} {args:List Ag} {f n:Nat} {g:Option (Nat × Bool)} {un:List Nat} {l:List Ae} {K:FM→Ab→Prop}
 (ha:los m args=some [.nils,.int .i64 (n:Int)]) (hp:AP.prim f=some growP) (hl:n≤1000000) (hd:(d.all fun d=>d<N)=true) (hg:gd m g=some true)
 (hk:∀ v S',(v = .nils∧n=0∨v = .view S.length 0 0 false∧S'[S.length]?=some (some ⟨1,[]⟩))→S.length<S'.length→TL AP N l (putM m d v) S' K):TL AP N (⟨d,.call (.c (.fn (.func f) [] [])) args,g,un⟩::l) m S K:=by
 unfold TL
 intro fr hfr
 have hg':=hfr.gd hg
 have hsh:sharesG AP ⟨fr,S⟩ ⟨d,.call (.c (.fn (.func f) [] [])) args,g,un⟩=some none:=by
  rw [Ada hg'];exact AvJ rfl (.inl (by rw [hp];rfl))
 have hsem:∃ v S',(v = .nils∧n=0∨v = .view S.length 0 0 false∧S'[S.length]?=some (some ⟨1,[]⟩))∧S.length<S'.length∧∀ k,∃e rds,(Av AP (AJ AP k) S.length (opd fr) (.call (.c (.fn (.func f) [] [])) args)).run (S++[none])=some (e,rds)∧e.val=v∧BM S.length e (S++[none])=S':=by
  by_cases h0:n=0
  ·subst h0
   refine⟨.nils,S++[none],.inl ⟨rfl,rfl⟩,by simp,fun k=>⟨⟨.nils,none,[]⟩,[],?_,rfl,rfl⟩⟩
   simp only [Av,opd,hfr.opds ha,AbX,hp,List.nil_append,List.append_nil]
   rfl
  ·refine⟨.view S.length 0 0 false,(S++[none]).set S.length (some ⟨1,[]⟩),.inr ⟨rfl,by simp⟩,by simp,fun k=>⟨⟨.view S.length 0 0 false,some ⟨1,[]⟩,[]⟩,[],?_,rfl,rfl⟩⟩
   simp only [Av,opd,hfr.opds ha,AbX,hp,List.nil_append,List.append_nil,growP]
   rw [if_neg (by omega),if_pos (by omega)]
   rfl
 obtain⟨v,S',hv,hl',hs⟩:=hsem
 have hk:=hk v S' hv hl'
 unfold TL at hk
 obtain⟨fr',m',S'',k1,k2,k3⟩:=hk _ (hfr.putO d v)
 refine⟨fr',m',S'',k1,k2,k3.map fun n hm=>?_⟩
 obtain⟨e,rds,e1,e2,e3⟩:=hs n
 subst e2 e3
 simp only [stepL,step1,hg',hsh,Ajp,Afz (fr:=fr) (fo := .c (.fn (.func f) [] [])) rfl (.inl (by rw [hp];rfl)),gr_allocs hp,if_true,BC,hd,e1,hm]
end Go.Eng
