/- ReportFrames is proved: the law answers true at every input. Condition: the listed variables read as listed when the call begins; the card ties them to the program's text. -/
import Derived.Test.YtiggilmfehhgaaaGreatDoorP
import Derived.Test.YtiggilmfehhgaaaGreatDoorG
import Derived.Test.YtiggilmfehhgaaaGreatDoorF
import Derived.Test.YtiggilmfehhgaaaGreatDoorT
import Derived.Test.YtiggilmfehhgaaaGreatDoorW
import Derived.Test.YtiggilmfehhgaaaGreatDoorE4
import Derived.Test.YtiggilmfehhgaaaGreatDoorCards
import Derived.SevenTiedAt
import Derived.LaidOnce
import Derived.LaidSub
import Derived.ChangeMaps5
set_option linter.unusedSectionVars false
set_option linter.unusedVariables false
set_option linter.unusedSimpArgs false
set_option linter.unnecessarySimpa false
namespace Go.Proofs.YtiggilmfehhgaaaGreatDoor
open Go Go.Eng Go.Eng.Ses Go.RowKit Go.ChangeShapes Go.WideShapes Go.ChangeAt
theorem own : ownKnob Tryz.prog.godebug = none := by kernel_rfl
theorem shape23 : Aml Tryz.prog 4 23 = some [.int .u8, .int .u8, .str] := by kernel_rfl
set_option maxRecDepth 100000 in
theorem AhS (os : Os) (started : os.Started) (H : Type) (enc : TypeId × Value → H) :
 ReturnsInHanded {} Tryz.checked os 3 .any (fun w args => (Rows.reportFramesSpec.pre enc Tryz.prog Tryz.f3 [] false w args ∧ laidMetH Tryz.prog Rows.reportFramesRow.laid w) ∧ sizedMet enc Tryz.prog Tryz.f3 (OpenSpec.ofChange Rows.reportFramesSpec) false w args)
  (Rows.reportFramesSpec.post enc Tryz.prog Tryz.f3 false true false false) := by
 refine returnsInHanded_of_change_and (C := Tryz.checked) (X := fun w _ => laidMetH Tryz.prog Rows.reportFramesRow.laid w) (fun _ _ _ hh h => h.of_heap hh) own started (by kernel_rfl) Tryz.func3
  (ChangeSpec.witness_shaped (enc := enc) (C := Tryz.checked) (os := os) (X := fun w _ => laidMetH Tryz.prog Rows.reportFramesRow.laid w) false (World.laidAll Tryz.prog os Rows.reportFramesRow.laid) #[.agg #[.int .u8 0, .int .u8 0, .string ByteArray.empty], .agg #[.int .u8 0, .int .u8 0, .string ByteArray.empty]] 3 (World.laidAll_os _ _ _)
    (World.shaped_of_ZipB (by kernel_rfl) (by kernel_rfl)) (by kernel_rfl) (by kernel_rfl) (by kernel_rfl)
    (by rw [MakeChecks.laidMetH_plain _ _ _ (by kernel_rfl)]; exact laidMet_laidAll _ (by kernel_rfl) (by kernel_rfl))) ?_
 intro W base args ds gs before hval0 hW _ _ hL _
 have hval : ∀ (j : Nat) t v, Tryz.f3.params[j]? = some t → args[j]? = some v → Value.okWide Tryz.prog W .any base t v := hval0
 have hW' := hW
 obtain ⟨p, q, hA0, hV, rfl, hfz, hnd⟩ := hW
 have hA : DataW.TrodAll enc Tryz.prog W 0 (fun _ => true) true Tryz.f3.params.toList args.toList ds p := hA0
 rw [Tryz.params3] at hA hval
 obtain ⟨v0, v1, d0, d1, p0, p1, hargs, rfl, rfl, h0, h1⟩ := trodAll_two hA
 obtain ⟨rfl, rfl⟩ := trodVars_none hV
 obtain ⟨xs0, hr0, hsh0⟩ := Rf.open_agg_rep 4 _ Tryz.underlying23 shape23 (hval 0 23 v0 rfl (by rw [hargs]; rfl)) h0
 obtain ⟨xs1, hr1, hsh1⟩ := Rf.open_agg_rep 4 _ Tryz.underlying23 shape23 (hval 1 23 v1 rfl (by rw [hargs]; rfl)) h1
 subst hargs
 obtain ⟨a0, b0, s0, rfl, ha0, hb0⟩ := Rf.look_of xs0 hsh0
 obtain ⟨a1, b1, s1, rfl, ha1, hb1⟩ := Rf.look_of xs1 hsh1
 obtain ⟨k, hk⟩ := Rf.frames_law a0 b0 s0 a1 b1 s1 ha0 hb0 ha1 hb1
 refine (calls_true Rf.aokR Tryz.func3 ⟨k, hk k (Nat.le_refl _)⟩ (AmS hr0 (AmS hr1 repV_nil)) (gok hL) (by kernel_rfl) (by kernel_rfl)
  (K := fun W' => Rows.reportFramesSpec.post enc Tryz.prog Tryz.f3 false true false false W #[v0, v1] (.bool true) W') ?_).mono ?_
 ·intro W' he
  exact post_true laidOut (by kernel_rfl) (by kernel_rfl) rfl hW' rfl rfl rfl he
 ·rintro e W' ⟨v, rfl, rfl, h⟩
  exact ⟨_, rfl, h⟩
theorem named3 : Tryz.prog.funcNamed Rows.reportFramesRow.func = some 3 := by kernel_rfl
theorem wf3 : Rows.reportFramesRow.wfByText (OpenSpec.ofChange Rows.reportFramesSpec) = true := by kernel_rfl
theorem main3 : Tryz.prog.mainIs = some (Rows.reportFramesCard.stood.harness.1, Rows.reportFramesCard.stood.harness.2.toList) := by kernel_rfl
theorem goes_no {P : Program} (h : P.funcs.any Func.goes = false) (f : FuncId) : P.goes f = false := by
 have h1 : ∀ g : Nat, (P.funcs[g]?).any Func.goes = false := fun g => by
  cases hg : P.funcs[g]? with
  | none => rfl
  | some fn =>
    have := Array.any_eq_false'.1 h fn (Array.mem_of_getElem? hg)
    simpa using this
 unfold Program.goes
 rw [h, Bool.and_false, Bool.or_false, List.any_eq_false]
 intro g _
 simp [h1 g]
theorem goes3 : false = Rows.reportFramesRow.goesBy Tryz.prog := by
 unfold OpenClaim.goesBy Program.goesAt Program.goesFrom
 show false = (((Tryz.prog.funcNamed Rows.reportFramesRow.func).any Tryz.prog.goes) || false)
 cases Tryz.prog.funcNamed Rows.reportFramesRow.func with
 | none => rfl
 | some f => simp [goes_no noGo f]
theorem looks3 : true = Tryz.prog.looks [] := by kernel_rfl
theorem stand23 : Tryz.prog.wantsStandIn 23 = false := by kernel_rfl
theorem inst3 : Tryz.f3.isInstance Tryz.prog Rows.reportFramesRow.origin Rows.reportFramesRow.targs := of_decide_eq_true (by kernel_rfl)
theorem wrap3 : Tryz.f3.isWrapper Tryz.prog Rows.reportFramesRow.wrapper Rows.reportFramesRow.mainSum := by unfold Func.isWrapper; first | (rw [if_pos (by decide +kernel)]; kernel_rfl) | (rw [if_neg (by decide +kernel)]; exact ⟨rfl, rfl⟩)
theorem Alr : Rows.ReportFramesSaid :=
 OpenClaim.holds_of_wide 3 Tryz.f3 rfl rfl rfl rfl rfl rfl rfl ⟨rfl, rfl, rfl, rfl, rfl⟩ rfl rfl rfl rfl rfl named3 Tryz.func3 reportFramesJ inst3 wrap3
  (fun os started H enc _ => AhS os started H enc)
theorem reportFrames_holds : Rows.ReportFramesCardSaid :=
 Claim7.holds_tied_plain_at .later [] [.data, .data, .data, .data, .pinned, .pinned] true Rows.reportFramesCard.stood.harness true Alr (fun _ h => by cases h) wf3 (fun _ h => by cases h) Alq rfl ⟨rfl, rfl⟩ main3 rfl
  (fun f fn hf hfn => by
    obtain rfl : f = 3 := Option.some.inj (named3.symm.trans hf) |>.symm
    obtain rfl : fn = Tryz.f3 := (Option.some.inj (Tryz.func3.symm.trans hfn)).symm
    refine ⟨looks3, fun j t ht => ?_⟩
    rw [Tryz.params3] at ht
    match j, ht with
    | 0, ht =>
      have ht : some 23 = some t := ht
      cases ht
      exact stand23
    | 1, ht =>
      have ht : some 23 = some t := ht
      cases ht
      exact stand23
    | j + 2, ht => simp at ht)
  goes3
#print axioms reportFrames_holds
end Go.Proofs.YtiggilmfehhgaaaGreatDoor
