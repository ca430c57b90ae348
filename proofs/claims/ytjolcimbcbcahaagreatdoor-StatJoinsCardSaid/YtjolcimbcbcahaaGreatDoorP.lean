/- The examples are true, as entries of the machine; no condition. -/
import Derived.Test.YtjolcimbcbcahaaGreatDoorS2
import Derived.Test.YtjolcimbcbcahaaGreatDoorK0
import Derived.Test.YtjolcimbcbcahaaGreatDoorK1
import Derived.Test.YtjolcimbcbcahaaGreatDoorK2
import Derived.Test.YtjolcimbcbcahaaGreatDoorK3
import Derived.Test.YtjolcimbcbcahaaGreatDoorK4
import Derived.Test.YtjolcimbcbcahaaGreatDoorK5
import Derived.Test.YtjolcimbcbcahaaGreatDoorW
import Derived.Test.YtjolcimbcbcahaaGreatDoorE6
set_option linter.unusedSectionVars false
set_option linter.unusedVariables false
set_option linter.unusedSimpArgs false
set_option linter.unnecessarySimpa false
namespace Go.Eng.Ses
open Go Go.Eng Go.Proofs
theorem or_t {a b:Bool} (h:(a || b)=true):a=true∨b=true:=by cases a<;>simp_all
theorem p205:Aba Tryz.prog 205 Acd:=Abx (D:=D205) (fun n h=>by
 unfold D205 at h
 simp at h) rfl k205
theorem p208:Aba Tryz.prog 208 Acd:=Abx (D:=D208) (fun n h=>by
 unfold D208 at h
 have:=Nat.eq_of_beq_eq_true h;subst this;exact p205) rfl k208
theorem p528:Aba Tryz.prog 528 Acd:=Abx (D:=D528) (fun n h=>by
 unfold D528 at h
 simp at h) rfl k528
theorem p212:Aba Tryz.prog 212 Acd:=Abx (D:=D212) (fun n h=>by
 unfold D212 at h
 simp at h) rfl k212
theorem p214:Aba Tryz.prog 214 Acd:=Abx (D:=D214) (fun n h=>by
 unfold D214 at h
 simp at h) rfl k214
theorem p340:Aba Tryz.prog 340 Acd:=Abx (D:=D340) (fun n h=>by
 unfold D340 at h
 simp at h) rfl k340
theorem p341:Aba Tryz.prog 341 Acd:=Abx (D:=D341) (fun n h=>by
 unfold D341 at h
 simp at h) rfl k341
theorem p71:Aba Tryz.prog 71 Acd:=Abx (D:=D71) (fun n h=>by
 unfold D71 at h
 have:=Nat.eq_of_beq_eq_true h;subst this;exact p205) rfl k71
theorem p445:Aba Tryz.prog 445 Acd:=Abx (D:=D445) (fun n h=>by
 unfold D445 at h
 have:=Nat.eq_of_beq_eq_true h;subst this;exact p208) rfl k445
theorem p446:Aba Tryz.prog 446 Acd:=Abx (D:=D446) (fun n h=>by
 unfold D446 at h
 rcases or_t h with h | h
 rotate_left
 ·have:=Nat.eq_of_beq_eq_true h;subst this;exact p528
 have:=Nat.eq_of_beq_eq_true h;subst this;exact p205) rfl k446
theorem p338:Aba Tryz.prog 338 Acd:=BbF (D:=D338) (fun n h=>by
 unfold D338 at h
 rcases or_t h with h | h
 rotate_left
 ·have:=Nat.eq_of_beq_eq_true h;subst this;exact p446
 have:=Nat.eq_of_beq_eq_true h;subst this;exact p445) rfl k338
theorem p448:Aba Tryz.prog 448 Acd:=BbF (D:=D448) (fun n h=>by
 unfold D448 at h
 rcases or_t h with h | h
 rotate_left
 ·have:=Nat.eq_of_beq_eq_true h;subst this;exact p338
 have:=Nat.eq_of_beq_eq_true h;subst this;exact p205) rfl k448
theorem p339:Aba Tryz.prog 339 Acd:=Abx (D:=D339) (fun n h=>by
 unfold D339 at h
 have:=Nat.eq_of_beq_eq_true h;subst this;exact p448) rfl k339
theorem p454:Aba Tryz.prog 454 Acd:=Abx (D:=D454) (fun n h=>by
 unfold D454 at h
 have:=Nat.eq_of_beq_eq_true h;subst this;exact p205) rfl k454
theorem p343:Aba Tryz.prog 343 Acd:=Abx (D:=D343) (fun n h=>by
 unfold D343 at h
 have:=Nat.eq_of_beq_eq_true h;subst this;exact p454) rfl k343
theorem p342:Aba Tryz.prog 342 Acd:=Abx (D:=D342) (fun n h=>by
 unfold D342 at h
 have:=Nat.eq_of_beq_eq_true h;subst this;exact p71) rfl k342
theorem p213:Aba Tryz.prog 213 Acd:=Abx (D:=D213) (fun n h=>by
 unfold D213 at h
 rcases or_t h with h | h
 rotate_left
 ·have:=Nat.eq_of_beq_eq_true h;subst this;exact p343
 rcases or_t h with h | h
 rotate_left
 ·have:=Nat.eq_of_beq_eq_true h;subst this;exact p342
 rcases or_t h with h | h
 rotate_left
 ·have:=Nat.eq_of_beq_eq_true h;subst this;exact p341
 rcases or_t h with h | h
 rotate_left
 ·have:=Nat.eq_of_beq_eq_true h;subst this;exact p340
 rcases or_t h with h | h
 rotate_left
 ·have:=Nat.eq_of_beq_eq_true h;subst this;exact p339
 have:=Nat.eq_of_beq_eq_true h;subst this;exact p338) rfl k213
theorem p215:Aba Tryz.prog 215 Acd:=Abx (D:=D215) (fun n h=>by
 unfold D215 at h
 have:=Nat.eq_of_beq_eq_true h;subst this;exact p212) rfl k215
theorem p90:Aba Tryz.prog 90 Acd:=Abx (D:=D90) (fun n h=>by
 unfold D90 at h
 rcases or_t h with h | h
 rotate_left
 ·have:=Nat.eq_of_beq_eq_true h;subst this;exact p215
 rcases or_t h with h | h
 rotate_left
 ·have:=Nat.eq_of_beq_eq_true h;subst this;exact p214
 rcases or_t h with h | h
 rotate_left
 ·have:=Nat.eq_of_beq_eq_true h;subst this;exact p213
 have:=Nat.eq_of_beq_eq_true h;subst this;exact p212) rfl k90
theorem p88:Aba Tryz.prog 88 Acd:=Abx (D:=D88) (fun n h=>by
 unfold D88 at h
 simp at h) rfl k88
theorem p89:Aba Tryz.prog 89 Acd:=Abx (D:=D89) (fun n h=>by
 unfold D89 at h
 have:=Nat.eq_of_beq_eq_true h;subst this;exact p208) rfl k89
theorem p91:Aba Tryz.prog 91 Acd:=Abx (D:=D91) (fun n h=>by
 unfold D91 at h
 have:=Nat.eq_of_beq_eq_true h;subst this;exact p205) rfl k91
theorem p92:Aba Tryz.prog 92 Acd:=Abx (D:=D92) (fun n h=>by
 unfold D92 at h
 have:=Nat.eq_of_beq_eq_true h;subst this;exact p71) rfl k92
theorem p32:Aba Tryz.prog 32 Acd:=Abx (D:=D32) (fun n h=>by
 unfold D32 at h
 rcases or_t h with h | h
 rotate_left
 ·have:=Nat.eq_of_beq_eq_true h;subst this;exact p92
 rcases or_t h with h | h
 rotate_left
 ·have:=Nat.eq_of_beq_eq_true h;subst this;exact p91
 rcases or_t h with h | h
 rotate_left
 ·have:=Nat.eq_of_beq_eq_true h;subst this;exact p90
 rcases or_t h with h | h
 rotate_left
 ·have:=Nat.eq_of_beq_eq_true h;subst this;exact p89
 have:=Nat.eq_of_beq_eq_true h;subst this;exact p88) rfl k32
theorem p72:Aba Tryz.prog 72 Acd:=Abx (D:=D72) (fun n h=>by
 unfold D72 at h
 have:=Nat.eq_of_beq_eq_true h;subst this;exact p32) rfl k72
theorem p49:Aba Tryz.prog 49 Acd:=Abx (D:=D49) (fun n h=>by
 unfold D49 at h
 rcases or_t h with h | h
 rotate_left
 ·have:=Nat.eq_of_beq_eq_true h;subst this;exact p72
 have:=Nat.eq_of_beq_eq_true h;subst this;exact p71) rfl k49
end Go.Eng.Ses
namespace Go.Eng.St
open Go Go.Eng Go.Eng.Ses Go.Proofs
set_option maxRecDepth 100000
theorem cs9:Aap Tryz.prog 9=some c_l34_StatJoins:=by kernel_rfl
theorem cs50:Aap Tryz.prog 50=some AnW:=by kernel_rfl
theorem cs51:Aap Tryz.prog 51=some Ada:=by kernel_rfl
theorem cs52:Aap Tryz.prog 52=some Adk:=by kernel_rfl
theorem cs54:Aap Tryz.prog 54=some AkV:=by kernel_rfl
theorem cs55:Aap Tryz.prog 55=some AiD:=by kernel_rfl
theorem cs56:Aap Tryz.prog 56=some Asw:=by kernel_rfl
theorem cs57:Aap Tryz.prog 57=some c_stat_Stat_Join:=by kernel_rfl
theorem cs58:Aap Tryz.prog 58=some c_stat_Stat_Less:=by kernel_rfl
theorem cs59:Aap Tryz.prog 59=some Aqa:=by kernel_rfl
theorem cs63:Aap Tryz.prog 63=some Aiz:=by kernel_rfl
theorem cs67:Aap Tryz.prog 67=some Aev:=by kernel_rfl
theorem cs82:Aap Tryz.prog 82=some AkQ:=by kernel_rfl
theorem cs132:Aap Tryz.prog 132=some AbA:=by kernel_rfl
theorem cs134:Aap Tryz.prog 134=some Aeu:=by kernel_rfl
theorem cs135:Aap Tryz.prog 135=some c_word_Sub:=by kernel_rfl
theorem p133:Aba Tryz.prog 133 (fun l=>match l with
 | []=>some namesV
 | _=>none):=Abn (aokT (D:=D133) (fun n h=>by
 unfold D133 at h
 simp at h)) (fun args r hr=>by
  split at hr
  ·cases hr;exact AhB 400 ((AjV (by kernel_rfl)).trans k133)
  ·cases hr) (by kernel_rfl)
theorem aokS:AOk Tryz.prog APs where
 fn f af h:=by
  have h:fnS f=some af:=h
  unfold fnS at h
  rcases Aau h with⟨_,h⟩ | ⟨_,h⟩
  ·rcases Aau h with⟨_,h⟩ | ⟨_,h⟩
   ·rcases Aau h with⟨_,h⟩ | ⟨_,h⟩
    ·rcases Aau h with⟨_,h⟩ | ⟨_,h⟩
     ·rcases Aau h with⟨hb,h⟩ | ⟨_,h⟩
      ·have:=Nat.eq_of_beq_eq_true hb;subst this;cases h;exact cs9
      cases h
     rcases Aau h with⟨hb,h⟩ | ⟨_,h⟩
     ·have:=Nat.eq_of_beq_eq_true hb;subst this;cases h;exact cs50
     cases h
    rcases Aau h with⟨_,h⟩ | ⟨_,h⟩
    ·rcases Aau h with⟨hb,h⟩ | ⟨_,h⟩
     ·have:=Nat.eq_of_beq_eq_true hb;subst this;cases h;exact cs51
     cases h
    rcases Aau h with⟨hb,h⟩ | ⟨_,h⟩
    ·have:=Nat.eq_of_beq_eq_true hb;subst this;cases h;exact cs52
    cases h
   rcases Aau h with⟨_,h⟩ | ⟨_,h⟩
   ·rcases Aau h with⟨_,h⟩ | ⟨_,h⟩
    ·rcases Aau h with⟨hb,h⟩ | ⟨_,h⟩
     ·have:=Nat.eq_of_beq_eq_true hb;subst this;cases h;exact cs54
     cases h
    rcases Aau h with⟨hb,h⟩ | ⟨_,h⟩
    ·have:=Nat.eq_of_beq_eq_true hb;subst this;cases h;exact cs55
    cases h
   rcases Aau h with⟨_,h⟩ | ⟨_,h⟩
   ·rcases Aau h with⟨hb,h⟩ | ⟨_,h⟩
    ·have:=Nat.eq_of_beq_eq_true hb;subst this;cases h;exact cs56
    cases h
   rcases Aau h with⟨hb,h⟩ | ⟨_,h⟩
   ·have:=Nat.eq_of_beq_eq_true hb;subst this;cases h;exact cs57
   cases h
  rcases Aau h with⟨_,h⟩ | ⟨_,h⟩
  ·rcases Aau h with⟨_,h⟩ | ⟨_,h⟩
   ·rcases Aau h with⟨_,h⟩ | ⟨_,h⟩
    ·rcases Aau h with⟨hb,h⟩ | ⟨_,h⟩
     ·have:=Nat.eq_of_beq_eq_true hb;subst this;cases h;exact cs58
     cases h
    rcases Aau h with⟨hb,h⟩ | ⟨_,h⟩
    ·have:=Nat.eq_of_beq_eq_true hb;subst this;cases h;exact cs59
    cases h
   rcases Aau h with⟨_,h⟩ | ⟨_,h⟩
   ·rcases Aau h with⟨hb,h⟩ | ⟨_,h⟩
    ·have:=Nat.eq_of_beq_eq_true hb;subst this;cases h;exact cs63
    cases h
   rcases Aau h with⟨hb,h⟩ | ⟨_,h⟩
   ·have:=Nat.eq_of_beq_eq_true hb;subst this;cases h;exact cs67
   cases h
  rcases Aau h with⟨_,h⟩ | ⟨_,h⟩
  ·rcases Aau h with⟨_,h⟩ | ⟨_,h⟩
   ·rcases Aau h with⟨hb,h⟩ | ⟨_,h⟩
    ·have:=Nat.eq_of_beq_eq_true hb;subst this;cases h;exact cs82
    cases h
   rcases Aau h with⟨hb,h⟩ | ⟨_,h⟩
   ·have:=Nat.eq_of_beq_eq_true hb;subst this;cases h;exact cs132
   cases h
  rcases Aau h with⟨_,h⟩ | ⟨_,h⟩
  ·rcases Aau h with⟨hb,h⟩ | ⟨_,h⟩
   ·have:=Nat.eq_of_beq_eq_true hb;subst this;cases h;exact cs134
   cases h
  rcases Aau h with⟨hb,h⟩ | ⟨_,h⟩
  ·have:=Nat.eq_of_beq_eq_true hb;subst this;cases h;exact cs135
  cases h
 prim f p h:=by cases h
 wr f p h:=by cases h
 pure f g h:=by
  have h:pureS f=some g:=h
  unfold pureS at h
  rcases Aau h with⟨hb,h⟩ | ⟨_,h⟩
  ·have:=Nat.eq_of_beq_eq_true hb;subst this;cases h
   refine fun args r hr=>p49 args r ?_
   unfold Acd
   exact hr
  rcases Aau h with⟨hb,h⟩ | ⟨_,h⟩
  ·have:=Nat.eq_of_beq_eq_true hb;subst this;cases h;exact p133
  rcases Aau h with⟨hb,h⟩ | ⟨_,h⟩
  ·have:=Nat.eq_of_beq_eq_true hb;subst this;cases h
   refine Ads (Ank Tryz.func136 (by kernel_rfl) (by kernel_rfl) (by kernel_rfl) (by kernel_rfl)) fun args r hr=>?_
   unfold AgK at hr
   split at hr<;>cases hr
   rfl
  rcases Aau h with⟨hb,h⟩ | ⟨_,h⟩
  ·have:=Nat.eq_of_beq_eq_true hb;subst this;cases h
   refine Ads (Ayd Tryz.func137 (by kernel_rfl) (by kernel_rfl) (by kernel_rfl) (by kernel_rfl)) fun args r hr=>?_
   unfold Bbm at hr
   split at hr<;>cases hr
   rfl
  cases h
end Go.Eng.St
