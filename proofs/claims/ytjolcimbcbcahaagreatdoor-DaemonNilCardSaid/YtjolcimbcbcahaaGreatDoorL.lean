/- DaemonNil is proved: the closed sentence answers true. Condition: the listed variables read as listed when the call begins; the card ties them to the program's text. -/
import Derived.Test.YtjolcimbcbcahaaGreatDoorP
import Derived.Test.YtjolcimbcbcahaaGreatDoorG
import Derived.Test.YtjolcimbcbcahaaGreatDoorF7
import Derived.Test.YtjolcimbcbcahaaGreatDoorT
import Derived.Test.YtjolcimbcbcahaaGreatDoorE4
import Derived.Test.YtjolcimbcbcahaaGreatDoorCards
import Derived.SevenTiedAt
import Derived.LaidOnce
import Derived.LaidSub
set_option linter.unusedSectionVars false
set_option linter.unusedVariables false
set_option linter.unusedSimpArgs false
set_option linter.unnecessarySimpa false

namespace Go.Proofs.YtjolcimbcbcahaaGreatDoor
open Go Go.Eng Go.Eng.Ses Go.RowKit Go.ChangeShapes Go.WideShapes Go.ChangeAt
theorem own : ownKnob Tryz.prog.godebug = none := by kernel_rfl
theorem aok7 : AOk Tryz.prog (APt D7) := aokT (D := D7) (fun n h => by
 unfold D7 at h
 have := Nat.eq_of_beq_eq_true h; subst this; exact p32)
set_option maxRecDepth 100000 in
theorem daemonNil_lifted (os : Os) (started : os.Started) (H : Type) (enc : TypeId × Value → H) :
  ReturnsInHanded {} Tryz.checked os 7 .any (fun w args => (Rows.daemonNilSpec.pre enc Tryz.prog Tryz.f7 [] false w args ∧ laidMetH Tryz.prog Rows.daemonNilRow.laid w) ∧ sizedMet enc Tryz.prog Tryz.f7 (OpenSpec.ofChange Rows.daemonNilSpec) false w args)
   (Rows.daemonNilSpec.post enc Tryz.prog Tryz.f7 false true false false) := by
 refine returnsInHanded_of_change_and (C := Tryz.checked) (X := fun w _ => laidMetH Tryz.prog Rows.daemonNilRow.laid w) (fun _ _ _ hh h => h.of_heap hh) own started (by kernel_rfl) Tryz.func7
  (ChangeSpec.witness_shaped (enc := enc) (C := Tryz.checked) (os := os) (X := fun w _ => laidMetH Tryz.prog Rows.daemonNilRow.laid w) false (World.laidAll Tryz.prog os Rows.daemonNilRow.laid) #[] 8 (World.laidAll_os _ _ _)
   (World.shaped_of_ZipB (by kernel_rfl) (by kernel_rfl)) (by kernel_rfl) (by kernel_rfl) (by kernel_rfl)
   (by rw [MakeChecks.laidMetH_plain _ _ _ (by kernel_rfl)]; exact laidMet_laidAll _ (by kernel_rfl) (by kernel_rfl))) ?_
 intro W base args ds gs before hval0 hW _ _ hL _
 have hW' := hW
 obtain ⟨p, q, hA0, hV, rfl, hfz, hnd⟩ := hW
 have hA : DataW.TrodAll enc Tryz.prog W 0 (fun _ => true) true Tryz.f7.params.toList args.toList ds p := hA0
 rw [Tryz.params7] at hA
 obtain ⟨rfl, rfl, rfl⟩ := trodAll_none hA
 obtain ⟨rfl, rfl⟩ := trodVars_none hV
 refine (calls_true aok7 Tryz.func7 ⟨400, k7⟩ repV_nil (gok hL) (by kernel_rfl) (by kernel_rfl)
  (K := fun W' => Rows.daemonNilSpec.post enc Tryz.prog Tryz.f7 false true false false W #[] (.bool true) W') ?_).mono ?_
 ·intro W' he
  exact post_true laidOut (by kernel_rfl) (by kernel_rfl) rfl hW' rfl rfl rfl he
 ·rintro e W' ⟨v, rfl, rfl, h⟩
  exact ⟨_, rfl, h⟩
theorem named7 : Tryz.prog.funcNamed Rows.daemonNilRow.func = some 7 := by kernel_rfl
theorem wf7 : Rows.daemonNilRow.wfByText (OpenSpec.ofChange Rows.daemonNilSpec) = true := by kernel_rfl
theorem main7 : Tryz.prog.mainIs = some (Rows.daemonNilCard.stood.harness.1, Rows.daemonNilCard.stood.harness.2.toList) := by kernel_rfl
theorem goes_no {P : Program} (h : P.funcs.any Func.goes = false) (f : FuncId) : P.goes f = false := by
 have h1 : ∀ g : Nat, (P.funcs[g]?).any Func.goes = false := fun g => by
  cases hg : P.funcs[g]? with
  | none => rfl
  | some fn =>
   have := Array.any_eq_false'.1 h fn (Array.mem_of_getElem? hg)
   simpa using this
 unfold Program.goes
 rw [h, Bool.and_false, Bool.or_false, List.any_eq_false]
 intro g _
 simp [h1 g]
theorem goes7 : false = Rows.daemonNilRow.goesBy Tryz.prog := by
 unfold OpenClaim.goesBy Program.goesAt Program.goesFrom
 show false = (((Tryz.prog.funcNamed Rows.daemonNilRow.func).any Tryz.prog.goes) || false)
 cases Tryz.prog.funcNamed Rows.daemonNilRow.func with
 | none => rfl
 | some f => simp [goes_no noGo f]
theorem looks7 : false = Tryz.prog.looks [] := by kernel_rfl
theorem inst7 : Tryz.f7.isInstance Tryz.prog Rows.daemonNilRow.origin Rows.daemonNilRow.targs := of_decide_eq_true (by kernel_rfl)
theorem wrap7 : Tryz.f7.isWrapper Tryz.prog Rows.daemonNilRow.wrapper Rows.daemonNilRow.mainSum := by unfold Func.isWrapper; first | (rw [if_pos (by decide +kernel)]; kernel_rfl) | (rw [if_neg (by decide +kernel)]; exact ⟨rfl, rfl⟩)
theorem daemonNil_row : Rows.DaemonNilSaid :=
 OpenClaim.holds_of_wide 7 Tryz.f7 rfl rfl rfl rfl rfl rfl rfl ⟨rfl, rfl, rfl, rfl, rfl⟩ rfl rfl rfl rfl rfl named7 Tryz.func7 daemonNilJ inst7 wrap7
  (fun os started H enc _ => daemonNil_lifted os started H enc)
theorem daemonNil_holds : Rows.DaemonNilCardSaid :=
 Claim7.holds_tied_plain_at .later [] [.data, .data, .data, .data, .pinned, .pinned] true Rows.daemonNilCard.stood.harness false daemonNil_row (fun _ h => by cases h) wf7 (fun _ h => by cases h) daemonNil_tie rfl ⟨rfl, rfl⟩ main7 rfl
  (fun f fn hf hfn => by
   obtain rfl : f = 7 := Option.some.inj (named7.symm.trans hf) |>.symm
   obtain rfl : fn = Tryz.f7 := (Option.some.inj (Tryz.func7.symm.trans hfn)).symm
   exact ⟨looks7, fun j t ht => by rw [Tryz.params7] at ht; simp at ht⟩)
  goes7
#print axioms daemonNil_holds
end Go.Proofs.YtjolcimbcbcahaaGreatDoor
