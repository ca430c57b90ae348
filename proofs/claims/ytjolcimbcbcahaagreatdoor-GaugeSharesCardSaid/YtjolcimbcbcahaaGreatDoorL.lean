/- GaugeShares is proved: the law answers true at every input. Condition: the listed variables read as listed when the call begins; the card ties them to the program's text. -/
import Derived.Test.YtjolcimbcbcahaaGreatDoorP
import Derived.Test.YtjolcimbcbcahaaGreatDoorG
import Derived.Test.YtjolcimbcbcahaaGreatDoorF
import Derived.Test.YtjolcimbcbcahaaGreatDoorT
import Derived.Test.YtjolcimbcbcahaaGreatDoorW
import Derived.Test.YtjolcimbcbcahaaGreatDoorE4
import Derived.Test.YtjolcimbcbcahaaGreatDoorCards
import Derived.SevenTiedAt
import Derived.LaidOnce
import Derived.LaidSub
import Derived.ChangeMaps5
set_option linter.unusedSectionVars false
set_option linter.unusedVariables false
set_option linter.unusedSimpArgs false
set_option linter.unnecessarySimpa false
namespace Go.Proofs.YtjolcimbcbcahaaGreatDoor
open Go Go.Eng Go.Eng.Ses Go.RowKit Go.ChangeShapes Go.WideShapes Go.ChangeAt
theorem own : ownKnob Tryz.prog.godebug = none := by kernel_rfl
theorem BcK : AlQ Tryz.prog 4 22 = some [.sl [.flt .f64]] := by kernel_rfl
set_option maxRecDepth 100000 in
theorem gaugeShares_lifted (os : Os) (started : os.Started) (H : Type) (enc : TypeId × Value → H) :
 ReturnsInHanded {} Tryz.checked os 3 .any (fun w args => (Rows.gaugeSharesSpec.pre enc Tryz.prog Tryz.f3 [] false w args ∧ laidMetH Tryz.prog Rows.gaugeSharesRow.laid w) ∧ sizedMet enc Tryz.prog Tryz.f3 (OpenSpec.ofChange Rows.gaugeSharesSpec) false w args)
  (Rows.gaugeSharesSpec.post enc Tryz.prog Tryz.f3 false true false false) := by
 refine returnsInHanded_of_change_and (C := Tryz.checked) (X := fun w _ => laidMetH Tryz.prog Rows.gaugeSharesRow.laid w) (fun _ _ _ hh h => h.of_heap hh) own started (by kernel_rfl) Tryz.func3
  (ChangeSpec.witness_shaped (enc := enc) (C := Tryz.checked) (os := os) (X := fun w _ => laidMetH Tryz.prog Rows.gaugeSharesRow.laid w) false (World.laidAll Tryz.prog os Rows.gaugeSharesRow.laid) #[.slice none 0 0, .slice none 0 0, .float .f64 0, .float .f64 0] 8 (World.laidAll_os _ _ _)
    (World.shaped_of_ZipB (by kernel_rfl) (by kernel_rfl)) (by kernel_rfl) (by kernel_rfl) (by kernel_rfl)
    (by rw [MakeChecks.laidMetH_plain _ _ _ (by kernel_rfl)]; exact laidMet_laidAll _ (by kernel_rfl) (by kernel_rfl))) ?_
 intro W base args ds gs before hval0 hW _ _ hL0 _
 have hval : ∀ (j : Nat) t v, Tryz.f3.params[j]? = some t → args[j]? = some v → Value.okWide Tryz.prog W .any base t v := hval0
 have hW' := hW
 obtain ⟨p, q, hA0, hV, rfl, hfz, hnd⟩ := hW
 have hA : DataW.TrodAll enc Tryz.prog W 0 (fun _ => true) true Tryz.f3.params.toList args.toList ds p := hA0
 rw [Tryz.params3] at hA hval
 obtain ⟨v0, v1, v2, v3, d0, d1, d2, d3, p0, p1, p2, p3, hargs, rfl, rfl, h0, h1, h2, h3⟩ := trodAll_four hA
 obtain ⟨rfl, rfl⟩ := trodVars_none hV
 obtain ⟨r0, hr0, hl0, hs0⟩ := Aio 4 _ Tryz.underlying22 BcK (hval 0 22 v0 rfl (by rw [hargs]; rfl)) h0
 obtain ⟨r1, hr1, hl1, hs1⟩ := Aio 4 _ Tryz.underlying22 BcK (hval 1 22 v1 rfl (by rw [hargs]; rfl)) h1
 obtain ⟨w, rfl, rfl, rfl, hw⟩ := open_float Tryz.underlying23 (hval 2 23 v2 rfl (by rw [hargs]; rfl)) h2
 obtain ⟨w2, rfl, rfl, rfl, hw2⟩ := open_float Tryz.underlying23 (hval 3 23 v3 rfl (by rw [hargs]; rfl)) h3
 subst hargs
 obtain ⟨E, rfl, hE⟩ := Ga.words_of r0 hs0
 obtain ⟨l, rfl, hL⟩ := Ga.words_of r1 hs1
 have hr2 : Rep [] (fun _ => False) W (.flt .f64 w) (.float .f64 w) := rfl
 have hr3 : Rep [] (fun _ => False) W (.flt .f64 w2) (.float .f64 w2) := rfl
 obtain ⟨k, hk⟩ := Ga.shares_law E l w w2 hE hL (of_decide_eq_true hw) (of_decide_eq_true hw2)
 refine (BbS Ga.aokG Tryz.func3 ⟨k, hk k (Nat.le_refl _)⟩ (Aij hr0 (Aij hr1 (Aij hr2 (Aij hr3 ApU)))) (gok hL0) (by kernel_rfl) (by kernel_rfl)
  (K := fun W' => Rows.gaugeSharesSpec.post enc Tryz.prog Tryz.f3 false true false false W #[v0, v1, .float .f64 w, .float .f64 w2] (.bool true) W') ?_).mono ?_
 ·intro W' he
  exact post_true laidOut (by kernel_rfl) (by kernel_rfl) rfl hW' rfl rfl rfl he
 ·rintro e W' ⟨v, rfl, rfl, h⟩
  exact ⟨_, rfl, h⟩
theorem named3 : Tryz.prog.funcNamed Rows.gaugeSharesRow.func = some 3 := by kernel_rfl
theorem wf3 : Rows.gaugeSharesRow.wfByText (OpenSpec.ofChange Rows.gaugeSharesSpec) = true := by kernel_rfl
theorem main3 : Tryz.prog.mainIs = some (Rows.gaugeSharesCard.stood.harness.1, Rows.gaugeSharesCard.stood.harness.2.toList) := by kernel_rfl
theorem goes_no {P : Program} (h : P.funcs.any Func.goes = false) (f : FuncId) : P.goes f = false := by
 have h1 : ∀ g : Nat, (P.funcs[g]?).any Func.goes = false := fun g => by
  cases hg : P.funcs[g]? with
  | none => rfl
  | some fn =>
    have := Array.any_eq_false'.1 h fn (Array.mem_of_getElem? hg)
    simpa using this
 unfold Program.goes
 rw [h, Bool.and_false, Bool.or_false, List.any_eq_false]
 intro g _
 simp [h1 g]
theorem goes3 : false = Rows.gaugeSharesRow.goesBy Tryz.prog := by
 unfold OpenClaim.goesBy Program.goesAt Program.goesFrom
 show false = (((Tryz.prog.funcNamed Rows.gaugeSharesRow.func).any Tryz.prog.goes) || false)
 cases Tryz.prog.funcNamed Rows.gaugeSharesRow.func with
 | none => rfl
 | some f => simp [goes_no noGo f]
theorem looks3 : false = Tryz.prog.looks [] := by kernel_rfl
theorem BcI : Tryz.prog.wantsStandIn 22 = false := by kernel_rfl
theorem stand23 : Tryz.prog.wantsStandIn 23 = false := by kernel_rfl
theorem inst3 : Tryz.f3.isInstance Tryz.prog Rows.gaugeSharesRow.origin Rows.gaugeSharesRow.targs := of_decide_eq_true (by kernel_rfl)
theorem wrap3 : Tryz.f3.isWrapper Tryz.prog Rows.gaugeSharesRow.wrapper Rows.gaugeSharesRow.mainSum := by unfold Func.isWrapper; first | (rw [if_pos (by decide +kernel)]; kernel_rfl) | (rw [if_neg (by decide +kernel)]; exact ⟨rfl, rfl⟩)
theorem gaugeShares_row : Rows.GaugeSharesSaid :=
 OpenClaim.holds_of_wide 3 Tryz.f3 rfl rfl rfl rfl rfl rfl rfl ⟨rfl, rfl, rfl, rfl, rfl⟩ rfl rfl rfl rfl rfl named3 Tryz.func3 gaugeSharesJ inst3 wrap3
  (fun os started H enc _ => gaugeShares_lifted os started H enc)
theorem gaugeShares_holds : Rows.GaugeSharesCardSaid :=
 Claim7.holds_tied_plain_at .later [] [.data, .data, .data, .data, .pinned, .pinned] true Rows.gaugeSharesCard.stood.harness false gaugeShares_row (fun _ h => by cases h) wf3 (fun _ h => by cases h) gaugeShares_tie rfl ⟨rfl, rfl⟩ main3 rfl
  (fun f fn hf hfn => by
    obtain rfl : f = 3 := Option.some.inj (named3.symm.trans hf) |>.symm
    obtain rfl : fn = Tryz.f3 := (Option.some.inj (Tryz.func3.symm.trans hfn)).symm
    refine ⟨looks3, fun j t ht => ?_⟩
    rw [Tryz.params3] at ht
    match j, ht with
    | 0, ht =>
      have ht : some 22 = some t := ht
      cases ht
      exact BcI
    | 1, ht =>
      have ht : some 22 = some t := ht
      cases ht
      exact BcI
    | 2, ht =>
      have ht : some 23 = some t := ht
      cases ht
      exact stand23
    | 3, ht =>
      have ht : some 23 = some t := ht
      cases ht
      exact stand23
    | j + 4, ht => simp at ht)
  goes3
#print axioms gaugeShares_holds
end Go.Proofs.YtjolcimbcbcahaaGreatDoor
