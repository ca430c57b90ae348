/- The examples are true, as entries of the machine; no condition. -/
import Derived.Test.YtjolcimbcbcahaaGreatDoorS2
import Derived.Test.YtjolcimbcbcahaaGreatDoorK0
import Derived.Test.YtjolcimbcbcahaaGreatDoorK1
import Derived.Test.YtjolcimbcbcahaaGreatDoorK2
import Derived.Test.YtjolcimbcbcahaaGreatDoorK3
import Derived.Test.YtjolcimbcbcahaaGreatDoorK4
import Derived.Test.YtjolcimbcbcahaaGreatDoorKg
import Derived.Test.YtjolcimbcbcahaaGreatDoorX
import Derived.Test.YtjolcimbcbcahaaGreatDoorS1
import Derived.Test.YtjolcimbcbcahaaGreatDoorProg
import Derived.KernelRfl
import Derived.Test.YtjolcimbcbcahaaGreatDoorW
import Derived.Test.YtjolcimbcbcahaaGreatDoorE6
set_option linter.unusedSectionVars false
set_option linter.unusedVariables false
set_option linter.unusedSimpArgs false
set_option linter.unnecessarySimpa false
namespace Go.Eng.Ses
open Go Go.Eng Go.Proofs
theorem or_t {a b:Bool} (h:(a || b)=true):a=true∨b=true:=by cases a<;>simp_all
theorem p205:AG Tryz.prog 205 Bo:=Bk (D:=D205) (fun n h=>by
 unfold D205 at h
 simp at h) rfl k205
theorem p208:AG Tryz.prog 208 Bo:=Bk (D:=D208) (fun n h=>by
 unfold D208 at h
 have:=Nat.eq_of_beq_eq_true h;subst this;exact p205) rfl k208
theorem p528:AG Tryz.prog 528 Bo:=Bk (D:=D528) (fun n h=>by
 unfold D528 at h
 simp at h) rfl k528
theorem p212:AG Tryz.prog 212 Bo:=Bk (D:=D212) (fun n h=>by
 unfold D212 at h
 simp at h) rfl k212
theorem p214:AG Tryz.prog 214 Bo:=Bk (D:=D214) (fun n h=>by
 unfold D214 at h
 simp at h) rfl k214
theorem p340:AG Tryz.prog 340 Bo:=Bk (D:=D340) (fun n h=>by
 unfold D340 at h
 simp at h) rfl k340
theorem p341:AG Tryz.prog 341 Bo:=Bk (D:=D341) (fun n h=>by
 unfold D341 at h
 simp at h) rfl k341
theorem p71:AG Tryz.prog 71 Bo:=Bk (D:=D71) (fun n h=>by
 unfold D71 at h
 have:=Nat.eq_of_beq_eq_true h;subst this;exact p205) rfl k71
theorem p445:AG Tryz.prog 445 Bo:=Bk (D:=D445) (fun n h=>by
 unfold D445 at h
 have:=Nat.eq_of_beq_eq_true h;subst this;exact p208) rfl k445
theorem p446:AG Tryz.prog 446 Bo:=Bk (D:=D446) (fun n h=>by
 unfold D446 at h
 rcases or_t h with h | h
 rotate_left
 ·have:=Nat.eq_of_beq_eq_true h;subst this;exact p528
 have:=Nat.eq_of_beq_eq_true h;subst this;exact p205) rfl k446
theorem p338:AG Tryz.prog 338 Bo:=Bcq (D:=D338) (fun n h=>by
 unfold D338 at h
 rcases or_t h with h | h
 rotate_left
 ·have:=Nat.eq_of_beq_eq_true h;subst this;exact p446
 have:=Nat.eq_of_beq_eq_true h;subst this;exact p445) rfl k338
theorem p448:AG Tryz.prog 448 Bo:=Bcq (D:=D448) (fun n h=>by
 unfold D448 at h
 rcases or_t h with h | h
 rotate_left
 ·have:=Nat.eq_of_beq_eq_true h;subst this;exact p338
 have:=Nat.eq_of_beq_eq_true h;subst this;exact p205) rfl k448
theorem p339:AG Tryz.prog 339 Bo:=Bk (D:=D339) (fun n h=>by
 unfold D339 at h
 have:=Nat.eq_of_beq_eq_true h;subst this;exact p448) rfl k339
theorem p454:AG Tryz.prog 454 Bo:=Bk (D:=D454) (fun n h=>by
 unfold D454 at h
 have:=Nat.eq_of_beq_eq_true h;subst this;exact p205) rfl k454
theorem p343:AG Tryz.prog 343 Bo:=Bk (D:=D343) (fun n h=>by
 unfold D343 at h
 have:=Nat.eq_of_beq_eq_true h;subst this;exact p454) rfl k343
theorem p342:AG Tryz.prog 342 Bo:=Bk (D:=D342) (fun n h=>by
 unfold D342 at h
 have:=Nat.eq_of_beq_eq_true h;subst this;exact p71) rfl k342
theorem p213:AG Tryz.prog 213 Bo:=Bk (D:=D213) (fun n h=>by
 unfold D213 at h
 rcases or_t h with h | h
 rotate_left
 ·have:=Nat.eq_of_beq_eq_true h;subst this;exact p343
 rcases or_t h with h | h
 rotate_left
 ·have:=Nat.eq_of_beq_eq_true h;subst this;exact p342
 rcases or_t h with h | h
 rotate_left
 ·have:=Nat.eq_of_beq_eq_true h;subst this;exact p341
 rcases or_t h with h | h
 rotate_left
 ·have:=Nat.eq_of_beq_eq_true h;subst this;exact p340
 rcases or_t h with h | h
 rotate_left
 ·have:=Nat.eq_of_beq_eq_true h;subst this;exact p339
 have:=Nat.eq_of_beq_eq_true h;subst this;exact p338) rfl k213
theorem p215:AG Tryz.prog 215 Bo:=Bk (D:=D215) (fun n h=>by
 unfold D215 at h
 have:=Nat.eq_of_beq_eq_true h;subst this;exact p212) rfl k215
theorem p90:AG Tryz.prog 90 Bo:=Bk (D:=D90) (fun n h=>by
 unfold D90 at h
 rcases or_t h with h | h
 rotate_left
 ·have:=Nat.eq_of_beq_eq_true h;subst this;exact p215
 rcases or_t h with h | h
 rotate_left
 ·have:=Nat.eq_of_beq_eq_true h;subst this;exact p214
 rcases or_t h with h | h
 rotate_left
 ·have:=Nat.eq_of_beq_eq_true h;subst this;exact p213
 have:=Nat.eq_of_beq_eq_true h;subst this;exact p212) rfl k90
theorem p88:AG Tryz.prog 88 Bo:=Bk (D:=D88) (fun n h=>by
 unfold D88 at h
 simp at h) rfl k88
theorem p89:AG Tryz.prog 89 Bo:=Bk (D:=D89) (fun n h=>by
 unfold D89 at h
 have:=Nat.eq_of_beq_eq_true h;subst this;exact p208) rfl k89
theorem p91:AG Tryz.prog 91 Bo:=Bk (D:=D91) (fun n h=>by
 unfold D91 at h
 have:=Nat.eq_of_beq_eq_true h;subst this;exact p205) rfl k91
theorem p92:AG Tryz.prog 92 Bo:=Bk (D:=D92) (fun n h=>by
 unfold D92 at h
 have:=Nat.eq_of_beq_eq_true h;subst this;exact p71) rfl k92
theorem p32:AG Tryz.prog 32 Bo:=Bk (D:=D32) (fun n h=>by
 unfold D32 at h
 rcases or_t h with h | h
 rotate_left
 ·have:=Nat.eq_of_beq_eq_true h;subst this;exact p92
 rcases or_t h with h | h
 rotate_left
 ·have:=Nat.eq_of_beq_eq_true h;subst this;exact p91
 rcases or_t h with h | h
 rotate_left
 ·have:=Nat.eq_of_beq_eq_true h;subst this;exact p90
 rcases or_t h with h | h
 rotate_left
 ·have:=Nat.eq_of_beq_eq_true h;subst this;exact p89
 have:=Nat.eq_of_beq_eq_true h;subst this;exact p88) rfl k32
theorem p72:AG Tryz.prog 72 Bo:=Bk (D:=D72) (fun n h=>by
 unfold D72 at h
 have:=Nat.eq_of_beq_eq_true h;subst this;exact p32) rfl k72
theorem p12:AG Tryz.prog 12 Bo:=Bk (D:=D12) (fun n h=>by
 unfold D12 at h
 rcases or_t h with h | h
 rotate_left
 ·have:=Nat.eq_of_beq_eq_true h;subst this;exact p72
 have:=Nat.eq_of_beq_eq_true h;subst this;exact p71) rfl k12
end Go.Eng.Ses
namespace Go.Eng.Ga
open Go Go.Eng Go.Eng.Ses Go.Proofs Go.Shelf
def growRen:Go.Shelf.Ren:=⟨fun | 4=>79 | n=>n,fun | 25=>23 | n=>n,fun | n=>n⟩
theorem growLays:Go.Proofs.Lays8.n4 Tryz.prog growRen:={
 mixed:=by kernel_rfl
 f4:=⟨Tryz.f79.name,by decide,Tryz.func79.trans (congrArg some (by kernel_rfl))⟩
 t0:=Tryz.underlying0
 a0:=Tryz.isAgg0
 z0:=Tryz.sizeOf0
 v0:=Tryz.zeroValue0
 t3:=Tryz.underlying3
 a3:=Tryz.isAgg3
 z3:=Tryz.sizeOf3
 v3:=Tryz.zeroValue3
 t4:=Tryz.underlying4
 a4:=Tryz.isAgg4
 z4:=Tryz.sizeOf4
 v4:=Tryz.zeroValue4
 t9:=Tryz.underlying9
 a9:=Tryz.isAgg9
 z9:=Tryz.sizeOf9
 v9:=Tryz.zeroValue9
 t20:=Tryz.underlying20
 a20:=Tryz.isAgg20
 z20:=Tryz.sizeOf20
 v20:=Tryz.zeroValue20
 t22:=Tryz.underlying22
 a22:=Tryz.isAgg22
 z22:=Tryz.sizeOf22
 v22:=Tryz.zeroValue22}
set_option maxRecDepth 100000
theorem growInfo:∃ i,Tryz.prog.info? (growRen.t 25)=some i∧i.size=1∧i.bytes=8∧∃ z,i.zero=some z∧z.cells.size=1:=by
 have h:(Tryz.prog.info? (growRen.t 25)).map (fun i=>(i.size,i.bytes,i.zero.map fun z=>z.cells.size))=some (1,8,some 1):=by kernel_rfl
 generalize Tryz.prog.info? (growRen.t 25)=o at h ⊢
 cases o with
 | none=>cases h
 | some i =>
   simp only [Option.map_some,Option.some.injEq,Prod.mk.injEq] at h
   obtain⟨h1,h2,h3⟩:=h
   refine⟨i,rfl,h1,h2,?_⟩
   generalize i.zero=o at h3 ⊢
   cases o with
   | none=>cases h3
   | some z=>exact⟨z,rfl,Option.some.inj h3⟩
theorem growF:Tryz.prog.funcs[growRen.f 4]?=some Tryz.f79:=Tryz.func79
theorem grow79:Abj Tryz.prog (growRen.f 4) growP:=by
 obtain⟨i,hi,hs,hb,z,hz,hc⟩:=growInfo
 exact growP_ok growLays growF (by kernel_rfl) (by kernel_rfl) hi hz hs hb hc
end Go.Eng.Ga
namespace Go.Eng.Ga
open Go Go.Eng Go.Eng.Ses Go.Proofs
set_option maxRecDepth 100000
theorem cg4:Ah Tryz.prog 4=some Ocg:=by kernel_rfl
theorem cg13:Ah Tryz.prog 13=some Ank:=by kernel_rfl
theorem cg14:Ah Tryz.prog 14=some ArQ:=by kernel_rfl
theorem cg16:Ah Tryz.prog 16=some Abs:=by kernel_rfl
theorem cg17:Ah Tryz.prog 17=some AbU:=by kernel_rfl
theorem cg18:Ah Tryz.prog 18=some Akc:=by kernel_rfl
theorem cg19:Ah Tryz.prog 19=some Ocb:=by kernel_rfl
theorem cg20:Ah Tryz.prog 20=some Oca:=by kernel_rfl
theorem cg21:Ah Tryz.prog 21=some Aam:=by kernel_rfl
theorem cg22:Ah Tryz.prog 22=some Abg:=by kernel_rfl
theorem cg23:Ah Tryz.prog 23=some AbV:=by kernel_rfl
theorem cg24:Ah Tryz.prog 24=some Ahz:=by kernel_rfl
theorem cg28:Ah Tryz.prog 28=some AeQ:=by kernel_rfl
theorem cg31:Ah Tryz.prog 31=some AdN:=by kernel_rfl
theorem cg59:Ah Tryz.prog 59=some Apw:=by kernel_rfl
theorem cg68:Ah Tryz.prog 68=some Aaj:=by kernel_rfl
theorem cg70:Ah Tryz.prog 70=some Akk:=by kernel_rfl
theorem cg73:Ah Tryz.prog 73=some AfR:=by kernel_rfl
theorem cg74:Ah Tryz.prog 74=some Abf:=by kernel_rfl
theorem cg76:Ah Tryz.prog 76=some Acj:=by kernel_rfl
theorem cg77:Ah Tryz.prog 77=some AaJ:=by kernel_rfl
theorem cg78:Ah Tryz.prog 78=some AaX:=by kernel_rfl
theorem cg79:Ah Tryz.prog 79=some Ocf:=by kernel_rfl
theorem cg80:Ah Tryz.prog 80=some AfN:=by kernel_rfl
theorem cg81:Ah Tryz.prog 81=some AhA:=by kernel_rfl
theorem cg82:Ah Tryz.prog 82=some AjX:=by kernel_rfl
theorem cg84:Ah Tryz.prog 84=some AfS:=by kernel_rfl
theorem cg85:Ah Tryz.prog 85=some Aak:=by kernel_rfl
theorem cg138:Ah Tryz.prog 138=some AbT:=by kernel_rfl
theorem cg140:Ah Tryz.prog 140=some Ach:=by kernel_rfl
theorem cg141:Ah Tryz.prog 141=some Adq:=by kernel_rfl
theorem cg142:Ah Tryz.prog 142=some Aea:=by kernel_rfl
theorem cg143:Ah Tryz.prog 143=some Abu:=by kernel_rfl
theorem cg144:Ah Tryz.prog 144=some Aah:=by kernel_rfl
theorem cg145:Ah Tryz.prog 145=some Aai:=by kernel_rfl
theorem cg204:Ah Tryz.prog 204=some Aad:=by kernel_rfl
theorem aokG:AOk Tryz.prog APg where
 fn f af h:=by
  have h:fnG f=some af:=h
  unfold fnG at h
  rcases bfS h with⟨_,h⟩ | ⟨_,h⟩
  ·rcases bfS h with⟨_,h⟩ | ⟨_,h⟩
   ·rcases bfS h with⟨_,h⟩ | ⟨_,h⟩
    ·rcases bfS h with⟨_,h⟩ | ⟨_,h⟩
     ·rcases bfS h with⟨_,h⟩ | ⟨_,h⟩
      ·rcases bfS h with⟨hb,h⟩ | ⟨_,h⟩
       ·have:=Nat.eq_of_beq_eq_true hb;subst this;cases h;exact cg4
       cases h
      rcases bfS h with⟨hb,h⟩ | ⟨_,h⟩
      ·have:=Nat.eq_of_beq_eq_true hb;subst this;cases h;exact cg13
      cases h
     rcases bfS h with⟨_,h⟩ | ⟨_,h⟩
     ·rcases bfS h with⟨hb,h⟩ | ⟨_,h⟩
      ·have:=Nat.eq_of_beq_eq_true hb;subst this;cases h;exact cg14
      cases h
     rcases bfS h with⟨hb,h⟩ | ⟨_,h⟩
     ·have:=Nat.eq_of_beq_eq_true hb;subst this;cases h;exact cg16
     cases h
    rcases bfS h with⟨_,h⟩ | ⟨_,h⟩
    ·rcases bfS h with⟨_,h⟩ | ⟨_,h⟩
     ·rcases bfS h with⟨hb,h⟩ | ⟨_,h⟩
      ·have:=Nat.eq_of_beq_eq_true hb;subst this;cases h;exact cg17
      cases h
     rcases bfS h with⟨hb,h⟩ | ⟨_,h⟩
     ·have:=Nat.eq_of_beq_eq_true hb;subst this;cases h;exact cg18
     cases h
    rcases bfS h with⟨_,h⟩ | ⟨_,h⟩
    ·rcases bfS h with⟨hb,h⟩ | ⟨_,h⟩
     ·have:=Nat.eq_of_beq_eq_true hb;subst this;cases h;exact cg19
     cases h
    rcases bfS h with⟨_,h⟩ | ⟨_,h⟩
    ·rcases bfS h with⟨hb,h⟩ | ⟨_,h⟩
     ·have:=Nat.eq_of_beq_eq_true hb;subst this;cases h;exact cg20
     cases h
    rcases bfS h with⟨hb,h⟩ | ⟨_,h⟩
    ·have:=Nat.eq_of_beq_eq_true hb;subst this;cases h;exact cg21
    cases h
   rcases bfS h with⟨_,h⟩ | ⟨_,h⟩
   ·rcases bfS h with⟨_,h⟩ | ⟨_,h⟩
    ·rcases bfS h with⟨_,h⟩ | ⟨_,h⟩
     ·rcases bfS h with⟨hb,h⟩ | ⟨_,h⟩
      ·have:=Nat.eq_of_beq_eq_true hb;subst this;cases h;exact cg22
      cases h
     rcases bfS h with⟨hb,h⟩ | ⟨_,h⟩
     ·have:=Nat.eq_of_beq_eq_true hb;subst this;cases h;exact cg23
     cases h
    rcases bfS h with⟨_,h⟩ | ⟨_,h⟩
    ·rcases bfS h with⟨hb,h⟩ | ⟨_,h⟩
     ·have:=Nat.eq_of_beq_eq_true hb;subst this;cases h;exact cg24
     cases h
    rcases bfS h with⟨hb,h⟩ | ⟨_,h⟩
    ·have:=Nat.eq_of_beq_eq_true hb;subst this;cases h;exact cg28
    cases h
   rcases bfS h with⟨_,h⟩ | ⟨_,h⟩
   ·rcases bfS h with⟨_,h⟩ | ⟨_,h⟩
    ·rcases bfS h with⟨hb,h⟩ | ⟨_,h⟩
     ·have:=Nat.eq_of_beq_eq_true hb;subst this;cases h;exact cg31
     cases h
    rcases bfS h with⟨hb,h⟩ | ⟨_,h⟩
    ·have:=Nat.eq_of_beq_eq_true hb;subst this;cases h;exact cg59
    cases h
   rcases bfS h with⟨_,h⟩ | ⟨_,h⟩
   ·rcases bfS h with⟨hb,h⟩ | ⟨_,h⟩
    ·have:=Nat.eq_of_beq_eq_true hb;subst this;cases h;exact cg68
    cases h
   rcases bfS h with⟨_,h⟩ | ⟨_,h⟩
   ·rcases bfS h with⟨hb,h⟩ | ⟨_,h⟩
    ·have:=Nat.eq_of_beq_eq_true hb;subst this;cases h;exact cg70
    cases h
   rcases bfS h with⟨hb,h⟩ | ⟨_,h⟩
   ·have:=Nat.eq_of_beq_eq_true hb;subst this;cases h;exact cg73
   cases h
  rcases bfS h with⟨_,h⟩ | ⟨_,h⟩
  ·rcases bfS h with⟨_,h⟩ | ⟨_,h⟩
   ·rcases bfS h with⟨_,h⟩ | ⟨_,h⟩
    ·rcases bfS h with⟨_,h⟩ | ⟨_,h⟩
     ·rcases bfS h with⟨hb,h⟩ | ⟨_,h⟩
      ·have:=Nat.eq_of_beq_eq_true hb;subst this;cases h;exact cg74
      cases h
     rcases bfS h with⟨hb,h⟩ | ⟨_,h⟩
     ·have:=Nat.eq_of_beq_eq_true hb;subst this;cases h;exact cg76
     cases h
    rcases bfS h with⟨_,h⟩ | ⟨_,h⟩
    ·rcases bfS h with⟨hb,h⟩ | ⟨_,h⟩
     ·have:=Nat.eq_of_beq_eq_true hb;subst this;cases h;exact cg77
     cases h
    rcases bfS h with⟨hb,h⟩ | ⟨_,h⟩
    ·have:=Nat.eq_of_beq_eq_true hb;subst this;cases h;exact cg78
    cases h
   rcases bfS h with⟨_,h⟩ | ⟨_,h⟩
   ·rcases bfS h with⟨_,h⟩ | ⟨_,h⟩
    ·rcases bfS h with⟨hb,h⟩ | ⟨_,h⟩
     ·have:=Nat.eq_of_beq_eq_true hb;subst this;cases h;exact cg79
     cases h
    rcases bfS h with⟨hb,h⟩ | ⟨_,h⟩
    ·have:=Nat.eq_of_beq_eq_true hb;subst this;cases h;exact cg80
    cases h
   rcases bfS h with⟨_,h⟩ | ⟨_,h⟩
   ·rcases bfS h with⟨hb,h⟩ | ⟨_,h⟩
    ·have:=Nat.eq_of_beq_eq_true hb;subst this;cases h;exact cg81
    cases h
   rcases bfS h with⟨_,h⟩ | ⟨_,h⟩
   ·rcases bfS h with⟨hb,h⟩ | ⟨_,h⟩
    ·have:=Nat.eq_of_beq_eq_true hb;subst this;cases h;exact cg82
    cases h
   rcases bfS h with⟨hb,h⟩ | ⟨_,h⟩
   ·have:=Nat.eq_of_beq_eq_true hb;subst this;cases h;exact cg84
   cases h
  rcases bfS h with⟨_,h⟩ | ⟨_,h⟩
  ·rcases bfS h with⟨_,h⟩ | ⟨_,h⟩
   ·rcases bfS h with⟨_,h⟩ | ⟨_,h⟩
    ·rcases bfS h with⟨hb,h⟩ | ⟨_,h⟩
     ·have:=Nat.eq_of_beq_eq_true hb;subst this;cases h;exact cg85
     cases h
    rcases bfS h with⟨hb,h⟩ | ⟨_,h⟩
    ·have:=Nat.eq_of_beq_eq_true hb;subst this;cases h;exact cg138
    cases h
   rcases bfS h with⟨_,h⟩ | ⟨_,h⟩
   ·rcases bfS h with⟨hb,h⟩ | ⟨_,h⟩
    ·have:=Nat.eq_of_beq_eq_true hb;subst this;cases h;exact cg140
    cases h
   rcases bfS h with⟨hb,h⟩ | ⟨_,h⟩
   ·have:=Nat.eq_of_beq_eq_true hb;subst this;cases h;exact cg141
   cases h
  rcases bfS h with⟨_,h⟩ | ⟨_,h⟩
  ·rcases bfS h with⟨_,h⟩ | ⟨_,h⟩
   ·rcases bfS h with⟨hb,h⟩ | ⟨_,h⟩
    ·have:=Nat.eq_of_beq_eq_true hb;subst this;cases h;exact cg142
    cases h
   rcases bfS h with⟨hb,h⟩ | ⟨_,h⟩
   ·have:=Nat.eq_of_beq_eq_true hb;subst this;cases h;exact cg143
   cases h
  rcases bfS h with⟨_,h⟩ | ⟨_,h⟩
  ·rcases bfS h with⟨hb,h⟩ | ⟨_,h⟩
   ·have:=Nat.eq_of_beq_eq_true hb;subst this;cases h;exact cg144
   cases h
  rcases bfS h with⟨_,h⟩ | ⟨_,h⟩
  ·rcases bfS h with⟨hb,h⟩ | ⟨_,h⟩
   ·have:=Nat.eq_of_beq_eq_true hb;subst this;cases h;exact cg145
   cases h
  rcases bfS h with⟨hb,h⟩ | ⟨_,h⟩
  ·have:=Nat.eq_of_beq_eq_true hb;subst this;cases h;exact cg204
  cases h
 prim f p h:=by
  rcases bfS h with⟨hb,h⟩ | ⟨_,h⟩
  ·have:=Nat.eq_of_beq_eq_true hb;subst this;cases h;exact grow79
  cases h
 wr f p h:=by
  rcases bfS h with⟨_,h⟩ | ⟨_,h⟩
  ·cases h;exact growP_wr
  cases h
 pure f g h:=by
  have h:pureG f=some g:=h
  unfold pureG at h
  rcases bfS h with⟨hb,h⟩ | ⟨_,h⟩
  ·have:=Nat.eq_of_beq_eq_true hb;subst this;cases h
   refine fun args r hr=>p12 args r ?_
   unfold Bo
   exact hr
  rcases bfS h with⟨hb,h⟩ | ⟨_,h⟩
  ·have:=Nat.eq_of_beq_eq_true hb;subst this;cases h
   refine Aco (Amu Tryz.func136 (by kernel_rfl) (by kernel_rfl) (by kernel_rfl) (by kernel_rfl)) fun args r hr=>?_
   unfold AfA at hr
   split at hr<;>cases hr
   rfl
  rcases bfS h with⟨hb,h⟩ | ⟨_,h⟩
  ·have:=Nat.eq_of_beq_eq_true hb;subst this;cases h
   refine Aco (Ayo Tryz.func137 (by kernel_rfl) (by kernel_rfl) (by kernel_rfl) (by kernel_rfl)) fun args r hr=>?_
   unfold BbV at hr
   split at hr<;>cases hr
   rfl
  cases h
end Go.Eng.Ga
