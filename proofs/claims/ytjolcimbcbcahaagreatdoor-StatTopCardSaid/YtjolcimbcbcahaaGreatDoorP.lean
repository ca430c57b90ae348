/- The examples are true, as entries of the machine; no condition. -/
import Derived.Test.YtjolcimbcbcahaaGreatDoorS2
import Derived.Test.YtjolcimbcbcahaaGreatDoorK0
import Derived.Test.YtjolcimbcbcahaaGreatDoorK1
import Derived.Test.YtjolcimbcbcahaaGreatDoorK2
import Derived.Test.YtjolcimbcbcahaaGreatDoorK3
import Derived.Test.YtjolcimbcbcahaaGreatDoorK4
import Derived.Test.YtjolcimbcbcahaaGreatDoorK5
import Derived.Test.YtjolcimbcbcahaaGreatDoorW
set_option linter.unusedSectionVars false
set_option linter.unusedVariables false
set_option linter.unusedSimpArgs false
set_option linter.unnecessarySimpa false
namespace Go.Eng.Ses
open Go Go.Eng Go.Proofs
theorem or_t {a b : Bool} (h : (a || b) = true) : a = true ∨ b = true := by cases a <;> simp_all
theorem p205 : AG Tryz.prog 205 Bo := Bk (D := D205) (fun n h => by
 unfold D205 at h
 simp at h) rfl k205
theorem p208 : AG Tryz.prog 208 Bo := Bk (D := D208) (fun n h => by
 unfold D208 at h
 have := Nat.eq_of_beq_eq_true h; subst this; exact p205) rfl k208
theorem p528 : AG Tryz.prog 528 Bo := Bk (D := D528) (fun n h => by
 unfold D528 at h
 simp at h) rfl k528
theorem p212 : AG Tryz.prog 212 Bo := Bk (D := D212) (fun n h => by
 unfold D212 at h
 simp at h) rfl k212
theorem p214 : AG Tryz.prog 214 Bo := Bk (D := D214) (fun n h => by
 unfold D214 at h
 simp at h) rfl k214
theorem p340 : AG Tryz.prog 340 Bo := Bk (D := D340) (fun n h => by
 unfold D340 at h
 simp at h) rfl k340
theorem p341 : AG Tryz.prog 341 Bo := Bk (D := D341) (fun n h => by
 unfold D341 at h
 simp at h) rfl k341
theorem p71 : AG Tryz.prog 71 Bo := Bk (D := D71) (fun n h => by
 unfold D71 at h
 have := Nat.eq_of_beq_eq_true h; subst this; exact p205) rfl k71
theorem p445 : AG Tryz.prog 445 Bo := Bk (D := D445) (fun n h => by
 unfold D445 at h
 have := Nat.eq_of_beq_eq_true h; subst this; exact p208) rfl k445
theorem p446 : AG Tryz.prog 446 Bo := Bk (D := D446) (fun n h => by
 unfold D446 at h
 rcases or_t h with h | h
 rotate_left
 ·have := Nat.eq_of_beq_eq_true h; subst this; exact p528
 have := Nat.eq_of_beq_eq_true h; subst this; exact p205) rfl k446
theorem p338 : AG Tryz.prog 338 Bo := true_30 (D := D338) (fun n h => by
 unfold D338 at h
 rcases or_t h with h | h
 rotate_left
 ·have := Nat.eq_of_beq_eq_true h; subst this; exact p446
 have := Nat.eq_of_beq_eq_true h; subst this; exact p445) rfl k338
theorem p448 : AG Tryz.prog 448 Bo := true_30 (D := D448) (fun n h => by
 unfold D448 at h
 rcases or_t h with h | h
 rotate_left
 ·have := Nat.eq_of_beq_eq_true h; subst this; exact p338
 have := Nat.eq_of_beq_eq_true h; subst this; exact p205) rfl k448
theorem p339 : AG Tryz.prog 339 Bo := Bk (D := D339) (fun n h => by
 unfold D339 at h
 have := Nat.eq_of_beq_eq_true h; subst this; exact p448) rfl k339
theorem p454 : AG Tryz.prog 454 Bo := Bk (D := D454) (fun n h => by
 unfold D454 at h
 have := Nat.eq_of_beq_eq_true h; subst this; exact p205) rfl k454
theorem p343 : AG Tryz.prog 343 Bo := Bk (D := D343) (fun n h => by
 unfold D343 at h
 have := Nat.eq_of_beq_eq_true h; subst this; exact p454) rfl k343
theorem p342 : AG Tryz.prog 342 Bo := Bk (D := D342) (fun n h => by
 unfold D342 at h
 have := Nat.eq_of_beq_eq_true h; subst this; exact p71) rfl k342
theorem p213 : AG Tryz.prog 213 Bo := Bk (D := D213) (fun n h => by
 unfold D213 at h
 rcases or_t h with h | h
 rotate_left
 ·have := Nat.eq_of_beq_eq_true h; subst this; exact p343
 rcases or_t h with h | h
 rotate_left
 ·have := Nat.eq_of_beq_eq_true h; subst this; exact p342
 rcases or_t h with h | h
 rotate_left
 ·have := Nat.eq_of_beq_eq_true h; subst this; exact p341
 rcases or_t h with h | h
 rotate_left
 ·have := Nat.eq_of_beq_eq_true h; subst this; exact p340
 rcases or_t h with h | h
 rotate_left
 ·have := Nat.eq_of_beq_eq_true h; subst this; exact p339
 have := Nat.eq_of_beq_eq_true h; subst this; exact p338) rfl k213
theorem p215 : AG Tryz.prog 215 Bo := Bk (D := D215) (fun n h => by
 unfold D215 at h
 have := Nat.eq_of_beq_eq_true h; subst this; exact p212) rfl k215
theorem p90 : AG Tryz.prog 90 Bo := Bk (D := D90) (fun n h => by
 unfold D90 at h
 rcases or_t h with h | h
 rotate_left
 ·have := Nat.eq_of_beq_eq_true h; subst this; exact p215
 rcases or_t h with h | h
 rotate_left
 ·have := Nat.eq_of_beq_eq_true h; subst this; exact p214
 rcases or_t h with h | h
 rotate_left
 ·have := Nat.eq_of_beq_eq_true h; subst this; exact p213
 have := Nat.eq_of_beq_eq_true h; subst this; exact p212) rfl k90
theorem p88 : AG Tryz.prog 88 Bo := Bk (D := D88) (fun n h => by
 unfold D88 at h
 simp at h) rfl k88
theorem p89 : AG Tryz.prog 89 Bo := Bk (D := D89) (fun n h => by
 unfold D89 at h
 have := Nat.eq_of_beq_eq_true h; subst this; exact p208) rfl k89
theorem p91 : AG Tryz.prog 91 Bo := Bk (D := D91) (fun n h => by
 unfold D91 at h
 have := Nat.eq_of_beq_eq_true h; subst this; exact p205) rfl k91
theorem p92 : AG Tryz.prog 92 Bo := Bk (D := D92) (fun n h => by
 unfold D92 at h
 have := Nat.eq_of_beq_eq_true h; subst this; exact p71) rfl k92
theorem p32 : AG Tryz.prog 32 Bo := Bk (D := D32) (fun n h => by
 unfold D32 at h
 rcases or_t h with h | h
 rotate_left
 ·have := Nat.eq_of_beq_eq_true h; subst this; exact p92
 rcases or_t h with h | h
 rotate_left
 ·have := Nat.eq_of_beq_eq_true h; subst this; exact p91
 rcases or_t h with h | h
 rotate_left
 ·have := Nat.eq_of_beq_eq_true h; subst this; exact p90
 rcases or_t h with h | h
 rotate_left
 ·have := Nat.eq_of_beq_eq_true h; subst this; exact p89
 have := Nat.eq_of_beq_eq_true h; subst this; exact p88) rfl k32
theorem p72 : AG Tryz.prog 72 Bo := Bk (D := D72) (fun n h => by
 unfold D72 at h
 have := Nat.eq_of_beq_eq_true h; subst this; exact p32) rfl k72
theorem p49 : AG Tryz.prog 49 Bo := Bk (D := D49) (fun n h => by
 unfold D49 at h
 rcases or_t h with h | h
 rotate_left
 ·have := Nat.eq_of_beq_eq_true h; subst this; exact p72
 have := Nat.eq_of_beq_eq_true h; subst this; exact p71) rfl k49
end Go.Eng.Ses
namespace Go.Eng.St
open Go Go.Eng Go.Eng.Ses Go.Proofs
set_option maxRecDepth 100000
theorem cs11 : Ah Tryz.prog 11 = some c_l34_StatTop := by kernel_rfl
theorem cs50 : Ah Tryz.prog 50 = some c_stat_Of := by kernel_rfl
theorem cs67 : Ah Tryz.prog 67 = some c_stat_Stat_Top := by kernel_rfl
theorem cs51 : Ah Tryz.prog 51 = some c_stat_Stat_Get := by kernel_rfl
theorem cs62 : Ah Tryz.prog 62 = some c_stat_Stat_Names := by kernel_rfl
theorem cs57 : Ah Tryz.prog 57 = some c_stat_Stat_Join := by kernel_rfl
theorem cs53 : Ah Tryz.prog 53 = some c_stat_Stat_Rate := by kernel_rfl
theorem cs58 : Ah Tryz.prog 58 = some c_stat_Stat_Less := by kernel_rfl
theorem cs56 : Ah Tryz.prog 56 = some c_l34_is := by kernel_rfl
theorem cs132 : Ah Tryz.prog 132 = some BF := by kernel_rfl
theorem cs82 : Ah Tryz.prog 82 = some c_word_Add := by kernel_rfl
theorem cs135 : Ah Tryz.prog 135 = some c_word_Sub := by kernel_rfl
theorem cs63 : Ah Tryz.prog 63 = some c_r34_Names := by kernel_rfl
theorem p133 : AG Tryz.prog 133 (fun l => match l with
 | [] => some namesV
 | _ => none) := AY (aokT (D := D133) (fun n h => by
 unfold D133 at h
 simp at h)) (fun args r hr => by
  split at hr
  ·cases hr; exact callR_at 400 ((callP_no (by kernel_rfl)).trans k133)
  ·cases hr) (by kernel_rfl)
theorem aokS : AOk Tryz.prog APs where
 fn f af h := by
  have h : fnS f = some af := h
  unfold fnS at h
  rcases bfS h with ⟨_, h⟩ | ⟨_, h⟩
  ·rcases bfS h with ⟨_, h⟩ | ⟨_, h⟩
   ·rcases bfS h with ⟨_, h⟩ | ⟨_, h⟩
    ·rcases bfS h with ⟨hb, h⟩ | ⟨_, h⟩
     ·have := Nat.eq_of_beq_eq_true hb; subst this; cases h; exact cs11
     cases h
    rcases bfS h with ⟨_, h⟩ | ⟨_, h⟩
    ·rcases bfS h with ⟨hb, h⟩ | ⟨_, h⟩
     ·have := Nat.eq_of_beq_eq_true hb; subst this; cases h; exact cs50
     cases h
    rcases bfS h with ⟨hb, h⟩ | ⟨_, h⟩
    ·have := Nat.eq_of_beq_eq_true hb; subst this; cases h; exact cs51
    cases h
   rcases bfS h with ⟨_, h⟩ | ⟨_, h⟩
   ·rcases bfS h with ⟨hb, h⟩ | ⟨_, h⟩
    ·have := Nat.eq_of_beq_eq_true hb; subst this; cases h; exact cs53
    cases h
   rcases bfS h with ⟨_, h⟩ | ⟨_, h⟩
   ·rcases bfS h with ⟨hb, h⟩ | ⟨_, h⟩
    ·have := Nat.eq_of_beq_eq_true hb; subst this; cases h; exact cs56
    cases h
   rcases bfS h with ⟨hb, h⟩ | ⟨_, h⟩
   ·have := Nat.eq_of_beq_eq_true hb; subst this; cases h; exact cs57
   cases h
  rcases bfS h with ⟨_, h⟩ | ⟨_, h⟩
  ·rcases bfS h with ⟨_, h⟩ | ⟨_, h⟩
   ·rcases bfS h with ⟨hb, h⟩ | ⟨_, h⟩
    ·have := Nat.eq_of_beq_eq_true hb; subst this; cases h; exact cs58
    cases h
   rcases bfS h with ⟨_, h⟩ | ⟨_, h⟩
   ·rcases bfS h with ⟨hb, h⟩ | ⟨_, h⟩
    ·have := Nat.eq_of_beq_eq_true hb; subst this; cases h; exact cs62
    cases h
   rcases bfS h with ⟨hb, h⟩ | ⟨_, h⟩
   ·have := Nat.eq_of_beq_eq_true hb; subst this; cases h; exact cs63
   cases h
  rcases bfS h with ⟨_, h⟩ | ⟨_, h⟩
  ·rcases bfS h with ⟨_, h⟩ | ⟨_, h⟩
   ·rcases bfS h with ⟨hb, h⟩ | ⟨_, h⟩
    ·have := Nat.eq_of_beq_eq_true hb; subst this; cases h; exact cs67
    cases h
   rcases bfS h with ⟨hb, h⟩ | ⟨_, h⟩
   ·have := Nat.eq_of_beq_eq_true hb; subst this; cases h; exact cs82
   cases h
  rcases bfS h with ⟨_, h⟩ | ⟨_, h⟩
  ·rcases bfS h with ⟨hb, h⟩ | ⟨_, h⟩
   ·have := Nat.eq_of_beq_eq_true hb; subst this; cases h; exact cs132
   cases h
  rcases bfS h with ⟨hb, h⟩ | ⟨_, h⟩
  ·have := Nat.eq_of_beq_eq_true hb; subst this; cases h; exact cs135
  cases h
 prim f p h := by
  have h : primS f = some p := h
  unfold primS at h
  rcases bfS h with ⟨hb, h⟩ | ⟨_, h⟩
  ·have := Nat.eq_of_beq_eq_true hb; subst this; cases h; exact frombits_ok Tryz.func136 (by kernel_rfl) (by kernel_rfl) (by kernel_rfl) (by kernel_rfl)
  rcases bfS h with ⟨hb, h⟩ | ⟨_, h⟩
  ·have := Nat.eq_of_beq_eq_true hb; subst this; cases h; exact bits_ok Tryz.func137 (by kernel_rfl) (by kernel_rfl) (by kernel_rfl) (by kernel_rfl)
  cases h
 wr f p h := by
  have h : primS f = some p := h
  unfold primS at h
  rcases bfS h with ⟨hb, h⟩ | ⟨_, h⟩
  ·cases h; exact pureP_wr _
  rcases bfS h with ⟨hb, h⟩ | ⟨_, h⟩
  ·cases h; exact pureP_wr _
  cases h
 pure f g h := by
  have h : pureS f = some g := h
  unfold pureS at h
  rcases bfS h with ⟨hb, h⟩ | ⟨_, h⟩
  ·have := Nat.eq_of_beq_eq_true hb; subst this; cases h
   refine fun args r hr => p49 args r ?_
   unfold Bo
   exact hr
  rcases bfS h with ⟨hb, h⟩ | ⟨_, h⟩
  ·have := Nat.eq_of_beq_eq_true hb; subst this; cases h; exact p133
  cases h
end Go.Eng.St
