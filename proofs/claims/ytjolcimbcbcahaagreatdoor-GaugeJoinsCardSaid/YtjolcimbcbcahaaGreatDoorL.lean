/- GaugeJoins is proved: the law answers true at every input. Condition: the listed variables read as listed when the call begins; the card ties them to the program's text. -/
import Derived.Test.YtjolcimbcbcahaaGreatDoorP
import Derived.Test.YtjolcimbcbcahaaGreatDoorG
import Derived.Test.YtjolcimbcbcahaaGreatDoorF
import Derived.Test.YtjolcimbcbcahaaGreatDoorT
import Derived.Test.YtjolcimbcbcahaaGreatDoorW
import Derived.Test.YtjolcimbcbcahaaGreatDoorE4
import Derived.Test.YtjolcimbcbcahaaGreatDoorCards
import Derived.SevenTiedAt
import Derived.LaidOnce
import Derived.LaidSub
import Derived.ChangeMaps5
set_option linter.unusedSectionVars false
set_option linter.unusedVariables false
set_option linter.unusedSimpArgs false
set_option linter.unnecessarySimpa false
namespace Go.Proofs.YtjolcimbcbcahaaGreatDoor
open Go Go.Eng Go.Eng.Ses Go.RowKit Go.ChangeShapes Go.WideShapes Go.ChangeAt
theorem own : ownKnob Tryz.prog.godebug = none := by kernel_rfl
theorem BcK : AlQ Tryz.prog 4 22 = some [.sl [.flt .f64]] := by kernel_rfl
set_option maxRecDepth 100000 in
theorem gaugeJoins_lifted (os : Os) (started : os.Started) (H : Type) (enc : TypeId × Value → H) :
 ReturnsInHanded {} Tryz.checked os 5 .any (fun w args => (Rows.gaugeJoinsSpec.pre enc Tryz.prog Tryz.f5 [] false w args ∧ laidMetH Tryz.prog Rows.gaugeJoinsRow.laid w) ∧ sizedMet enc Tryz.prog Tryz.f5 (OpenSpec.ofChange Rows.gaugeJoinsSpec) false w args)
  (Rows.gaugeJoinsSpec.post enc Tryz.prog Tryz.f5 false true false false) := by
 refine returnsInHanded_of_change_and (C := Tryz.checked) (X := fun w _ => laidMetH Tryz.prog Rows.gaugeJoinsRow.laid w) (fun _ _ _ hh h => h.of_heap hh) own started (by kernel_rfl) Tryz.func5
  (ChangeSpec.witness_shaped (enc := enc) (C := Tryz.checked) (os := os) (X := fun w _ => laidMetH Tryz.prog Rows.gaugeJoinsRow.laid w) false (World.laidAll Tryz.prog os Rows.gaugeJoinsRow.laid) #[.slice none 0 0, .slice none 0 0, .slice none 0 0, .int .u16 0] 8 (World.laidAll_os _ _ _)
    (World.shaped_of_ZipB (by kernel_rfl) (by kernel_rfl)) (by kernel_rfl) (by kernel_rfl) (by kernel_rfl)
    (by rw [MakeChecks.laidMetH_plain _ _ _ (by kernel_rfl)]; exact laidMet_laidAll _ (by kernel_rfl) (by kernel_rfl))) ?_
 intro W base args ds gs before hval0 hW _ _ hL0 _
 have hval : ∀ (j : Nat) t v, Tryz.f5.params[j]? = some t → args[j]? = some v → Value.okWide Tryz.prog W .any base t v := hval0
 have hW' := hW
 obtain ⟨p, q, hA0, hV, rfl, hfz, hnd⟩ := hW
 have hA : DataW.TrodAll enc Tryz.prog W 0 (fun _ => true) true Tryz.f5.params.toList args.toList ds p := hA0
 rw [Tryz.params5] at hA hval
 obtain ⟨v0, v1, v2, v3, d0, d1, d2, d3, p0, p1, p2, p3, hargs, rfl, rfl, h0, h1, h2, h3⟩ := trodAll_four hA
 obtain ⟨rfl, rfl⟩ := trodVars_none hV
 obtain ⟨r0, hr0, hl0, hs0⟩ := Aio 4 _ Tryz.underlying22 BcK (hval 0 22 v0 rfl (by rw [hargs]; rfl)) h0
 obtain ⟨r1, hr1, hl1, hs1⟩ := Aio 4 _ Tryz.underlying22 BcK (hval 1 22 v1 rfl (by rw [hargs]; rfl)) h1
 obtain ⟨r2, hr2, hl2, hs2⟩ := Aio 4 _ Tryz.underlying22 BcK (hval 2 22 v2 rfl (by rw [hargs]; rfl)) h2
 obtain ⟨z3, rfl, rfl, rfl, hw3⟩ := open_int Tryz.underlying45 (hval 3 45 v3 rfl (by rw [hargs]; rfl)) h3
 have hz3 : 0 ≤ z3 ∧ z3 < 65536 := by
  simp [Lit.wf, IntKind.min, IntKind.max, IntKind.signed, IntKind.bits] at hw3
  omega
 subst hargs
 obtain ⟨E0, rfl, hE0⟩ := Ga.words_of r0 hs0
 obtain ⟨E1, rfl, hE1⟩ := Ga.words_of r1 hs1
 obtain ⟨E2, rfl, hE2⟩ := Ga.words_of r2 hs2
 obtain ⟨n3, rfl⟩ : ∃ n : Nat, z3 = (n : Int) := ⟨z3.toNat, by omega⟩
 have hr3 : Rep [] (fun _ => False) W (.int .u16 (n3 : Int)) (.int .u16 (n3 : Int)) := rfl
 obtain ⟨k, hk⟩ := Ga.joins_law E0 E1 E2 n3 hE0 hE1 hE2 (by omega)
 refine (BbS Ga.aokG Tryz.func5 ⟨k, hk k (Nat.le_refl _)⟩ (Aij hr0 (Aij hr1 (Aij hr2 (Aij hr3 ApU)))) (gok hL0) (by kernel_rfl) (by kernel_rfl)
  (K := fun W' => Rows.gaugeJoinsSpec.post enc Tryz.prog Tryz.f5 false true false false W #[v0, v1, v2, .int .u16 (n3 : Int)] (.bool true) W') ?_).mono ?_
 ·intro W' he
  exact post_true laidOut (by kernel_rfl) (by kernel_rfl) rfl hW' rfl rfl rfl he
 ·rintro e W' ⟨v, rfl, rfl, h⟩
  exact ⟨_, rfl, h⟩
theorem named5 : Tryz.prog.funcNamed Rows.gaugeJoinsRow.func = some 5 := by kernel_rfl
theorem wf5 : Rows.gaugeJoinsRow.wfByText (OpenSpec.ofChange Rows.gaugeJoinsSpec) = true := by kernel_rfl
theorem main5 : Tryz.prog.mainIs = some (Rows.gaugeJoinsCard.stood.harness.1, Rows.gaugeJoinsCard.stood.harness.2.toList) := by kernel_rfl
theorem goes_no {P : Program} (h : P.funcs.any Func.goes = false) (f : FuncId) : P.goes f = false := by
 have h1 : ∀ g : Nat, (P.funcs[g]?).any Func.goes = false := fun g => by
  cases hg : P.funcs[g]? with
  | none => rfl
  | some fn =>
    have := Array.any_eq_false'.1 h fn (Array.mem_of_getElem? hg)
    simpa using this
 unfold Program.goes
 rw [h, Bool.and_false, Bool.or_false, List.any_eq_false]
 intro g _
 simp [h1 g]
theorem goes5 : false = Rows.gaugeJoinsRow.goesBy Tryz.prog := by
 unfold OpenClaim.goesBy Program.goesAt Program.goesFrom
 show false = (((Tryz.prog.funcNamed Rows.gaugeJoinsRow.func).any Tryz.prog.goes) || false)
 cases Tryz.prog.funcNamed Rows.gaugeJoinsRow.func with
 | none => rfl
 | some f => simp [goes_no noGo f]
theorem looks5 : false = Tryz.prog.looks [] := by kernel_rfl
theorem BcI : Tryz.prog.wantsStandIn 22 = false := by kernel_rfl
theorem stand45 : Tryz.prog.wantsStandIn 45 = false := by kernel_rfl
theorem inst5 : Tryz.f5.isInstance Tryz.prog Rows.gaugeJoinsRow.origin Rows.gaugeJoinsRow.targs := of_decide_eq_true (by kernel_rfl)
theorem wrap5 : Tryz.f5.isWrapper Tryz.prog Rows.gaugeJoinsRow.wrapper Rows.gaugeJoinsRow.mainSum := by unfold Func.isWrapper; first | (rw [if_pos (by decide +kernel)]; kernel_rfl) | (rw [if_neg (by decide +kernel)]; exact ⟨rfl, rfl⟩)
theorem gaugeJoins_row : Rows.GaugeJoinsSaid :=
 OpenClaim.holds_of_wide 5 Tryz.f5 rfl rfl rfl rfl rfl rfl rfl ⟨rfl, rfl, rfl, rfl, rfl⟩ rfl rfl rfl rfl rfl named5 Tryz.func5 gaugeJoinsJ inst5 wrap5
  (fun os started H enc _ => gaugeJoins_lifted os started H enc)
theorem gaugeJoins_holds : Rows.GaugeJoinsCardSaid :=
 Claim7.holds_tied_plain_at .later [] [.data, .data, .data, .data, .pinned, .pinned] true Rows.gaugeJoinsCard.stood.harness false gaugeJoins_row (fun _ h => by cases h) wf5 (fun _ h => by cases h) gaugeJoins_tie rfl ⟨rfl, rfl⟩ main5 rfl
  (fun f fn hf hfn => by
    obtain rfl : f = 5 := Option.some.inj (named5.symm.trans hf) |>.symm
    obtain rfl : fn = Tryz.f5 := (Option.some.inj (Tryz.func5.symm.trans hfn)).symm
    refine ⟨looks5, fun j t ht => ?_⟩
    rw [Tryz.params5] at ht
    match j, ht with
    | 0, ht =>
      have ht : some 22 = some t := ht
      cases ht
      exact BcI
    | 1, ht =>
      have ht : some 22 = some t := ht
      cases ht
      exact BcI
    | 2, ht =>
      have ht : some 22 = some t := ht
      cases ht
      exact BcI
    | 3, ht =>
      have ht : some 45 = some t := ht
      cases ht
      exact stand45
    | j + 4, ht => simp at ht)
  goes5
#print axioms gaugeJoins_holds
end Go.Proofs.YtjolcimbcbcahaaGreatDoor
