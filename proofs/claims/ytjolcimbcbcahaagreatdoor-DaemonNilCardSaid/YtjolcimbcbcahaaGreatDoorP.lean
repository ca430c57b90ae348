/- The examples are true, as entries of the machine; no condition. -/
import Derived.Test.YtjolcimbcbcahaaGreatDoorS2
import Derived.Test.YtjolcimbcbcahaaGreatDoorK0
import Derived.Test.YtjolcimbcbcahaaGreatDoorK1
import Derived.Test.YtjolcimbcbcahaaGreatDoorK2
import Derived.Test.YtjolcimbcbcahaaGreatDoorK3
import Derived.Test.YtjolcimbcbcahaaGreatDoorK4
import Derived.Test.YtjolcimbcbcahaaGreatDoorK5
set_option linter.unusedSectionVars false
set_option linter.unusedVariables false
set_option linter.unusedSimpArgs false
set_option linter.unnecessarySimpa false

namespace Go.Eng.Ses
open Go Go.Eng Go.Proofs
theorem or_t {a b : Bool} (h : (a || b) = true) : a = true ∨ b = true := by cases a <;> simp_all
theorem p205 : PureOk Tryz.prog 205 trueG := true_ok (D := D205) (fun n h => by
 unfold D205 at h
 simp at h) rfl k205
theorem p208 : PureOk Tryz.prog 208 trueG := true_ok (D := D208) (fun n h => by
 unfold D208 at h
 have := Nat.eq_of_beq_eq_true h; subst this; exact p205) rfl k208
theorem p528 : PureOk Tryz.prog 528 trueG := true_ok (D := D528) (fun n h => by
 unfold D528 at h
 simp at h) rfl k528
theorem p212 : PureOk Tryz.prog 212 trueG := true_ok (D := D212) (fun n h => by
 unfold D212 at h
 simp at h) rfl k212
theorem p214 : PureOk Tryz.prog 214 trueG := true_ok (D := D214) (fun n h => by
 unfold D214 at h
 simp at h) rfl k214
theorem p340 : PureOk Tryz.prog 340 trueG := true_ok (D := D340) (fun n h => by
 unfold D340 at h
 simp at h) rfl k340
theorem p341 : PureOk Tryz.prog 341 trueG := true_ok (D := D341) (fun n h => by
 unfold D341 at h
 simp at h) rfl k341
theorem p71 : PureOk Tryz.prog 71 trueG := true_ok (D := D71) (fun n h => by
 unfold D71 at h
 have := Nat.eq_of_beq_eq_true h; subst this; exact p205) rfl k71
theorem p445 : PureOk Tryz.prog 445 trueG := true_ok (D := D445) (fun n h => by
 unfold D445 at h
 have := Nat.eq_of_beq_eq_true h; subst this; exact p208) rfl k445
theorem p446 : PureOk Tryz.prog 446 trueG := true_ok (D := D446) (fun n h => by
 unfold D446 at h
 rcases or_t h with h | h
 rotate_left
 ·have := Nat.eq_of_beq_eq_true h; subst this; exact p528
 have := Nat.eq_of_beq_eq_true h; subst this; exact p205) rfl k446
theorem p338 : PureOk Tryz.prog 338 trueG := true_30 (D := D338) (fun n h => by
 unfold D338 at h
 rcases or_t h with h | h
 rotate_left
 ·have := Nat.eq_of_beq_eq_true h; subst this; exact p446
 have := Nat.eq_of_beq_eq_true h; subst this; exact p445) rfl k338
theorem p448 : PureOk Tryz.prog 448 trueG := true_30 (D := D448) (fun n h => by
 unfold D448 at h
 rcases or_t h with h | h
 rotate_left
 ·have := Nat.eq_of_beq_eq_true h; subst this; exact p338
 have := Nat.eq_of_beq_eq_true h; subst this; exact p205) rfl k448
theorem p339 : PureOk Tryz.prog 339 trueG := true_ok (D := D339) (fun n h => by
 unfold D339 at h
 have := Nat.eq_of_beq_eq_true h; subst this; exact p448) rfl k339
theorem p454 : PureOk Tryz.prog 454 trueG := true_ok (D := D454) (fun n h => by
 unfold D454 at h
 have := Nat.eq_of_beq_eq_true h; subst this; exact p205) rfl k454
theorem p343 : PureOk Tryz.prog 343 trueG := true_ok (D := D343) (fun n h => by
 unfold D343 at h
 have := Nat.eq_of_beq_eq_true h; subst this; exact p454) rfl k343
theorem p342 : PureOk Tryz.prog 342 trueG := true_ok (D := D342) (fun n h => by
 unfold D342 at h
 have := Nat.eq_of_beq_eq_true h; subst this; exact p71) rfl k342
theorem p213 : PureOk Tryz.prog 213 trueG := true_ok (D := D213) (fun n h => by
 unfold D213 at h
 rcases or_t h with h | h
 rotate_left
 ·have := Nat.eq_of_beq_eq_true h; subst this; exact p343
 rcases or_t h with h | h
 rotate_left
 ·have := Nat.eq_of_beq_eq_true h; subst this; exact p342
 rcases or_t h with h | h
 rotate_left
 ·have := Nat.eq_of_beq_eq_true h; subst this; exact p341
 rcases or_t h with h | h
 rotate_left
 ·have := Nat.eq_of_beq_eq_true h; subst this; exact p340
 rcases or_t h with h | h
 rotate_left
 ·have := Nat.eq_of_beq_eq_true h; subst this; exact p339
 have := Nat.eq_of_beq_eq_true h; subst this; exact p338) rfl k213
theorem p215 : PureOk Tryz.prog 215 trueG := true_ok (D := D215) (fun n h => by
 unfold D215 at h
 have := Nat.eq_of_beq_eq_true h; subst this; exact p212) rfl k215
theorem p90 : PureOk Tryz.prog 90 trueG := true_ok (D := D90) (fun n h => by
 unfold D90 at h
 rcases or_t h with h | h
 rotate_left
 ·have := Nat.eq_of_beq_eq_true h; subst this; exact p215
 rcases or_t h with h | h
 rotate_left
 ·have := Nat.eq_of_beq_eq_true h; subst this; exact p214
 rcases or_t h with h | h
 rotate_left
 ·have := Nat.eq_of_beq_eq_true h; subst this; exact p213
 have := Nat.eq_of_beq_eq_true h; subst this; exact p212) rfl k90
theorem p88 : PureOk Tryz.prog 88 trueG := true_ok (D := D88) (fun n h => by
 unfold D88 at h
 simp at h) rfl k88
theorem p89 : PureOk Tryz.prog 89 trueG := true_ok (D := D89) (fun n h => by
 unfold D89 at h
 have := Nat.eq_of_beq_eq_true h; subst this; exact p208) rfl k89
theorem p91 : PureOk Tryz.prog 91 trueG := true_ok (D := D91) (fun n h => by
 unfold D91 at h
 have := Nat.eq_of_beq_eq_true h; subst this; exact p205) rfl k91
theorem p92 : PureOk Tryz.prog 92 trueG := true_ok (D := D92) (fun n h => by
 unfold D92 at h
 have := Nat.eq_of_beq_eq_true h; subst this; exact p71) rfl k92
theorem p32 : PureOk Tryz.prog 32 trueG := true_ok (D := D32) (fun n h => by
 unfold D32 at h
 rcases or_t h with h | h
 rotate_left
 ·have := Nat.eq_of_beq_eq_true h; subst this; exact p92
 rcases or_t h with h | h
 rotate_left
 ·have := Nat.eq_of_beq_eq_true h; subst this; exact p91
 rcases or_t h with h | h
 rotate_left
 ·have := Nat.eq_of_beq_eq_true h; subst this; exact p90
 rcases or_t h with h | h
 rotate_left
 ·have := Nat.eq_of_beq_eq_true h; subst this; exact p89
 have := Nat.eq_of_beq_eq_true h; subst this; exact p88) rfl k32
theorem p72 : PureOk Tryz.prog 72 trueG := true_ok (D := D72) (fun n h => by
 unfold D72 at h
 have := Nat.eq_of_beq_eq_true h; subst this; exact p32) rfl k72
theorem p7 : PureOk Tryz.prog 7 trueG := true_ok (D := D7) (fun n h => by
 unfold D7 at h
 have := Nat.eq_of_beq_eq_true h; subst this; exact p32) rfl k7
end Go.Eng.Ses
