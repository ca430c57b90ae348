/- The examples are true, as entries of the machine; no condition. -/
import Derived.Test.YtiggilmfehhgaaaGreatDoorS2
import Derived.Test.YtiggilmfehhgaaaGreatDoorK0
import Derived.Test.YtiggilmfehhgaaaGreatDoorK1
import Derived.Test.YtiggilmfehhgaaaGreatDoorK2
import Derived.Test.YtiggilmfehhgaaaGreatDoorK3
import Derived.Test.YtiggilmfehhgaaaGreatDoorK4
import Derived.Test.YtiggilmfehhgaaaGreatDoorK5
import Derived.Test.YtiggilmfehhgaaaGreatDoorW
import Derived.Test.YtiggilmfehhgaaaGreatDoorE6
set_option linter.unusedSectionVars false
set_option linter.unusedVariables false
set_option linter.unusedSimpArgs false
set_option linter.unnecessarySimpa false
namespace Go.Eng.Ses
open Go Go.Eng Go.Proofs
theorem or_t {a b:Bool} (h:(a || b)=true):a=true∨b=true:=by cases a<;>simp_all
theorem p261:Abb Tryz.prog 261 AbR:=Abq (D:=D261) (fun n h=>by
 unfold D261 at h
 simp at h) rfl k261
theorem p77:Abb Tryz.prog 77 AbR:=Abq (D:=D77) (fun n h=>by
 unfold D77 at h
 have:=Nat.eq_of_beq_eq_true h;subst this;exact p261) rfl k77
theorem p89:Abb Tryz.prog 89 AbR:=Abq (D:=D89) (fun n h=>by
 unfold D89 at h
 simp at h) rfl k89
theorem p279:Abb Tryz.prog 279 AbR:=Abq (D:=D279) (fun n h=>by
 unfold D279 at h
 simp at h) rfl k279
theorem p271:Abb Tryz.prog 271 AbR:=Abq (D:=D271) (fun n h=>by
 unfold D271 at h
 have:=Nat.eq_of_beq_eq_true h;subst this;exact p279) rfl k271
theorem p90:Abb Tryz.prog 90 AbR:=Abq (D:=D90) (fun n h=>by
 unfold D90 at h
 have:=Nat.eq_of_beq_eq_true h;subst this;exact p271) rfl k90
theorem p275:Abb Tryz.prog 275 AbR:=Abq (D:=D275) (fun n h=>by
 unfold D275 at h
 simp at h) rfl k275
theorem p578:Abb Tryz.prog 578 AbR:=Abq (D:=D578) (fun n h=>by
 unfold D578 at h
 have:=Nat.eq_of_beq_eq_true h;subst this;exact p271) rfl k578
theorem p633:Abb Tryz.prog 633 AbR:=Abq (D:=D633) (fun n h=>by
 unfold D633 at h
 simp at h) rfl k633
theorem p579:Abb Tryz.prog 579 AbR:=Abq (D:=D579) (fun n h=>by
 unfold D579 at h
 rcases or_t h with h | h
 rotate_left
 ·have:=Nat.eq_of_beq_eq_true h;subst this;exact p633
 have:=Nat.eq_of_beq_eq_true h;subst this;exact p279) rfl k579
theorem p469:Abb Tryz.prog 469 AbR:=true_30 (D:=D469) (fun n h=>by
 unfold D469 at h
 rcases or_t h with h | h
 rotate_left
 ·have:=Nat.eq_of_beq_eq_true h;subst this;exact p579
 have:=Nat.eq_of_beq_eq_true h;subst this;exact p578) rfl k469
theorem p581:Abb Tryz.prog 581 AbR:=true_30 (D:=D581) (fun n h=>by
 unfold D581 at h
 rcases or_t h with h | h
 rotate_left
 ·have:=Nat.eq_of_beq_eq_true h;subst this;exact p469
 have:=Nat.eq_of_beq_eq_true h;subst this;exact p279) rfl k581
theorem p470:Abb Tryz.prog 470 AbR:=Abq (D:=D470) (fun n h=>by
 unfold D470 at h
 have:=Nat.eq_of_beq_eq_true h;subst this;exact p581) rfl k470
theorem p471:Abb Tryz.prog 471 AbR:=Abq (D:=D471) (fun n h=>by
 unfold D471 at h
 simp at h) rfl k471
theorem p281:Abb Tryz.prog 281 AbR:=Abq (D:=D281) (fun n h=>by
 unfold D281 at h
 have:=Nat.eq_of_beq_eq_true h;subst this;exact p279) rfl k281
theorem p472:Abb Tryz.prog 472 AbR:=Abq (D:=D472) (fun n h=>by
 unfold D472 at h
 have:=Nat.eq_of_beq_eq_true h;subst this;exact p281) rfl k472
theorem p586:Abb Tryz.prog 586 AbR:=Abq (D:=D586) (fun n h=>by
 unfold D586 at h
 have:=Nat.eq_of_beq_eq_true h;subst this;exact p279) rfl k586
theorem p473:Abb Tryz.prog 473 AbR:=Abq (D:=D473) (fun n h=>by
 unfold D473 at h
 have:=Nat.eq_of_beq_eq_true h;subst this;exact p586) rfl k473
theorem p276:Abb Tryz.prog 276 AbR:=Abq (D:=D276) (fun n h=>by
 unfold D276 at h
 rcases or_t h with h | h
 rotate_left
 ·have:=Nat.eq_of_beq_eq_true h;subst this;exact p473
 rcases or_t h with h | h
 rotate_left
 ·have:=Nat.eq_of_beq_eq_true h;subst this;exact p472
 rcases or_t h with h | h
 rotate_left
 ·have:=Nat.eq_of_beq_eq_true h;subst this;exact p471
 rcases or_t h with h | h
 rotate_left
 ·have:=Nat.eq_of_beq_eq_true h;subst this;exact p470
 rcases or_t h with h | h
 rotate_left
 ·have:=Nat.eq_of_beq_eq_true h;subst this;exact p469
 have:=Nat.eq_of_beq_eq_true h;subst this;exact p261) rfl k276
theorem p277:Abb Tryz.prog 277 AbR:=Abq (D:=D277) (fun n h=>by
 unfold D277 at h
 simp at h) rfl k277
theorem p278:Abb Tryz.prog 278 AbR:=Abq (D:=D278) (fun n h=>by
 unfold D278 at h
 have:=Nat.eq_of_beq_eq_true h;subst this;exact p275) rfl k278
theorem p91:Abb Tryz.prog 91 AbR:=Abq (D:=D91) (fun n h=>by
 unfold D91 at h
 rcases or_t h with h | h
 rotate_left
 ·have:=Nat.eq_of_beq_eq_true h;subst this;exact p278
 rcases or_t h with h | h
 rotate_left
 ·have:=Nat.eq_of_beq_eq_true h;subst this;exact p277
 rcases or_t h with h | h
 rotate_left
 ·have:=Nat.eq_of_beq_eq_true h;subst this;exact p276
 have:=Nat.eq_of_beq_eq_true h;subst this;exact p275) rfl k91
theorem p92:Abb Tryz.prog 92 AbR:=Abq (D:=D92) (fun n h=>by
 unfold D92 at h
 have:=Nat.eq_of_beq_eq_true h;subst this;exact p279) rfl k92
theorem p93:Abb Tryz.prog 93 AbR:=Abq (D:=D93) (fun n h=>by
 unfold D93 at h
 have:=Nat.eq_of_beq_eq_true h;subst this;exact p281) rfl k93
theorem p17:Abb Tryz.prog 17 AbR:=Abq (D:=D17) (fun n h=>by
 unfold D17 at h
 rcases or_t h with h | h
 rotate_left
 ·have:=Nat.eq_of_beq_eq_true h;subst this;exact p93
 rcases or_t h with h | h
 rotate_left
 ·have:=Nat.eq_of_beq_eq_true h;subst this;exact p92
 rcases or_t h with h | h
 rotate_left
 ·have:=Nat.eq_of_beq_eq_true h;subst this;exact p91
 rcases or_t h with h | h
 rotate_left
 ·have:=Nat.eq_of_beq_eq_true h;subst this;exact p90
 have:=Nat.eq_of_beq_eq_true h;subst this;exact p89) rfl k17
theorem p78:Abb Tryz.prog 78 AbR:=Abq (D:=D78) (fun n h=>by
 unfold D78 at h
 have:=Nat.eq_of_beq_eq_true h;subst this;exact p17) rfl k78
theorem p11:Abb Tryz.prog 11 AbR:=Abq (D:=D11) (fun n h=>by
 unfold D11 at h
 rcases or_t h with h | h
 rotate_left
 ·have:=Nat.eq_of_beq_eq_true h;subst this;exact p78
 have:=Nat.eq_of_beq_eq_true h;subst this;exact p77) rfl k11
end Go.Eng.Ses
namespace Go.Eng.Rf
open Go Go.Eng Go.Eng.Ses Go.Proofs
set_option maxRecDepth 100000
theorem cs3:Aat Tryz.prog 3=some AcW:=by kernel_rfl
theorem cs12:Aat Tryz.prog 12=some AkC:=by kernel_rfl
theorem cs13:Aat Tryz.prog 13=some Acb:=by kernel_rfl
theorem cs14:Aat Tryz.prog 14=some Abt:=by kernel_rfl
theorem cs15:Aat Tryz.prog 15=some AeR:=by kernel_rfl
theorem cs16:Aat Tryz.prog 16=some AfB:=by kernel_rfl
theorem cs35:Aat Tryz.prog 35=some AcE:=by kernel_rfl
theorem cs79:Aat Tryz.prog 79=some AgT:=by kernel_rfl
theorem cs80:Aat Tryz.prog 80=some c_r11_Put:=by kernel_rfl
theorem cs81:Aat Tryz.prog 81=some c_r11_New:=by kernel_rfl
theorem cs82:Aat Tryz.prog 82=some Acw:=by kernel_rfl
theorem cs84:Aat Tryz.prog 84=some Acx:=by kernel_rfl
theorem cs128:Aat Tryz.prog 128=some AeQ:=by kernel_rfl
theorem cs164:Aat Tryz.prog 164=some Akv:=by kernel_rfl
theorem cs165:Aat Tryz.prog 165=some Aix:=by kernel_rfl
theorem aokR:AOk Tryz.prog APr where
 fn f af h:=by
  have h:fnR f=some af:=h
  unfold fnR at h
  rcases Aaw h with⟨_,h⟩ | ⟨_,h⟩
  ·rcases Aaw h with⟨_,h⟩ | ⟨_,h⟩
   ·rcases Aaw h with⟨_,h⟩ | ⟨_,h⟩
    ·rcases Aaw h with⟨hb,h⟩ | ⟨_,h⟩
     ·have:=Nat.eq_of_beq_eq_true hb;subst this;cases h;exact cs3
     cases h
    rcases Aaw h with⟨_,h⟩ | ⟨_,h⟩
    ·rcases Aaw h with⟨hb,h⟩ | ⟨_,h⟩
     ·have:=Nat.eq_of_beq_eq_true hb;subst this;cases h;exact cs12
     cases h
    rcases Aaw h with⟨hb,h⟩ | ⟨_,h⟩
    ·have:=Nat.eq_of_beq_eq_true hb;subst this;cases h;exact cs13
    cases h
   rcases Aaw h with⟨_,h⟩ | ⟨_,h⟩
   ·rcases Aaw h with⟨_,h⟩ | ⟨_,h⟩
    ·rcases Aaw h with⟨hb,h⟩ | ⟨_,h⟩
     ·have:=Nat.eq_of_beq_eq_true hb;subst this;cases h;exact cs14
     cases h
    rcases Aaw h with⟨hb,h⟩ | ⟨_,h⟩
    ·have:=Nat.eq_of_beq_eq_true hb;subst this;cases h;exact cs15
    cases h
   rcases Aaw h with⟨_,h⟩ | ⟨_,h⟩
   ·rcases Aaw h with⟨hb,h⟩ | ⟨_,h⟩
    ·have:=Nat.eq_of_beq_eq_true hb;subst this;cases h;exact cs16
    cases h
   rcases Aaw h with⟨hb,h⟩ | ⟨_,h⟩
   ·have:=Nat.eq_of_beq_eq_true hb;subst this;cases h;exact cs35
   cases h
  rcases Aaw h with⟨_,h⟩ | ⟨_,h⟩
  ·rcases Aaw h with⟨_,h⟩ | ⟨_,h⟩
   ·rcases Aaw h with⟨_,h⟩ | ⟨_,h⟩
    ·rcases Aaw h with⟨hb,h⟩ | ⟨_,h⟩
     ·have:=Nat.eq_of_beq_eq_true hb;subst this;cases h;exact cs79
     cases h
    rcases Aaw h with⟨hb,h⟩ | ⟨_,h⟩
    ·have:=Nat.eq_of_beq_eq_true hb;subst this;cases h;exact cs80
    cases h
   rcases Aaw h with⟨_,h⟩ | ⟨_,h⟩
   ·rcases Aaw h with⟨hb,h⟩ | ⟨_,h⟩
    ·have:=Nat.eq_of_beq_eq_true hb;subst this;cases h;exact cs81
    cases h
   rcases Aaw h with⟨hb,h⟩ | ⟨_,h⟩
   ·have:=Nat.eq_of_beq_eq_true hb;subst this;cases h;exact cs82
   cases h
  rcases Aaw h with⟨_,h⟩ | ⟨_,h⟩
  ·rcases Aaw h with⟨_,h⟩ | ⟨_,h⟩
   ·rcases Aaw h with⟨hb,h⟩ | ⟨_,h⟩
    ·have:=Nat.eq_of_beq_eq_true hb;subst this;cases h;exact cs84
    cases h
   rcases Aaw h with⟨hb,h⟩ | ⟨_,h⟩
   ·have:=Nat.eq_of_beq_eq_true hb;subst this;cases h;exact cs128
   cases h
  rcases Aaw h with⟨_,h⟩ | ⟨_,h⟩
  ·rcases Aaw h with⟨hb,h⟩ | ⟨_,h⟩
   ·have:=Nat.eq_of_beq_eq_true hb;subst this;cases h;exact cs164
   cases h
  rcases Aaw h with⟨hb,h⟩ | ⟨_,h⟩
  ·have:=Nat.eq_of_beq_eq_true hb;subst this;cases h;exact cs165
  cases h
 prim f p h:=by cases h
 wr f p h:=by cases h
 pure f g h:=by
  have h:pureR f=some g:=h
  unfold pureR at h
  rcases Aaw h with⟨hb,h⟩ | ⟨_,h⟩
  ·have:=Nat.eq_of_beq_eq_true hb;subst this;cases h
   refine fun args r hr=>p11 args r ?_
   unfold AbR
   exact hr
  rcases Aaw h with⟨hb,h⟩ | ⟨_,h⟩
  ·have:=Nat.eq_of_beq_eq_true hb;subst this;cases h;exact repeat_p
  cases h
end Go.Eng.Rf
