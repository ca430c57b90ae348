/- GaugeOrders is proved: the law answers true at every input. Condition: the listed variables read as listed when the call begins; the card ties them to the program's text. -/
import Derived.Test.YtjolcimbcbcahaaGreatDoorP
import Derived.Test.YtjolcimbcbcahaaGreatDoorG
import Derived.Test.YtjolcimbcbcahaaGreatDoorF
import Derived.Test.YtjolcimbcbcahaaGreatDoorT
import Derived.Test.YtjolcimbcbcahaaGreatDoorW
import Derived.Test.YtjolcimbcbcahaaGreatDoorE4
import Derived.Test.YtjolcimbcbcahaaGreatDoorCards
import Derived.SevenTiedAt
import Derived.LaidOnce
import Derived.LaidSub
import Derived.ChangeMaps5
set_option linter.unusedSectionVars false
set_option linter.unusedVariables false
set_option linter.unusedSimpArgs false
set_option linter.unnecessarySimpa false
namespace Go.Proofs.YtjolcimbcbcahaaGreatDoor
open Go Go.Eng Go.Eng.Ses Go.RowKit Go.ChangeShapes Go.WideShapes Go.ChangeAt
theorem own : ownKnob Tryz.prog.godebug = none := by kernel_rfl
theorem BcK : AlQ Tryz.prog 4 22 = some [.sl [.flt .f64]] := by kernel_rfl
set_option maxRecDepth 100000 in
theorem gaugeOrders_lifted (os : Os) (started : os.Started) (H : Type) (enc : TypeId × Value → H) :
 ReturnsInHanded {} Tryz.checked os 4 .any (fun w args => (Rows.gaugeOrdersSpec.pre enc Tryz.prog Tryz.f4 [] false w args ∧ laidMetH Tryz.prog Rows.gaugeOrdersRow.laid w) ∧ sizedMet enc Tryz.prog Tryz.f4 (OpenSpec.ofChange Rows.gaugeOrdersSpec) false w args)
  (Rows.gaugeOrdersSpec.post enc Tryz.prog Tryz.f4 false true false false) := by
 refine returnsInHanded_of_change_and (C := Tryz.checked) (X := fun w _ => laidMetH Tryz.prog Rows.gaugeOrdersRow.laid w) (fun _ _ _ hh h => h.of_heap hh) own started (by kernel_rfl) Tryz.func4
  (ChangeSpec.witness_shaped (enc := enc) (C := Tryz.checked) (os := os) (X := fun w _ => laidMetH Tryz.prog Rows.gaugeOrdersRow.laid w) false (World.laidAll Tryz.prog os Rows.gaugeOrdersRow.laid) #[.slice none 0 0, .slice none 0 0, .int .u8 0, .float .f64 0] 8 (World.laidAll_os _ _ _)
    (World.shaped_of_ZipB (by kernel_rfl) (by kernel_rfl)) (by kernel_rfl) (by kernel_rfl) (by kernel_rfl)
    (by rw [MakeChecks.laidMetH_plain _ _ _ (by kernel_rfl)]; exact laidMet_laidAll _ (by kernel_rfl) (by kernel_rfl))) ?_
 intro W base args ds gs before hval0 hW _ _ hL0 _
 have hval : ∀ (j : Nat) t v, Tryz.f4.params[j]? = some t → args[j]? = some v → Value.okWide Tryz.prog W .any base t v := hval0
 have hW' := hW
 obtain ⟨p, q, hA0, hV, rfl, hfz, hnd⟩ := hW
 have hA : DataW.TrodAll enc Tryz.prog W 0 (fun _ => true) true Tryz.f4.params.toList args.toList ds p := hA0
 rw [Tryz.params4] at hA hval
 obtain ⟨v0, v1, v2, v3, d0, d1, d2, d3, p0, p1, p2, p3, hargs, rfl, rfl, h0, h1, h2, h3⟩ := trodAll_four hA
 obtain ⟨rfl, rfl⟩ := trodVars_none hV
 obtain ⟨r0, hr0, hl0, hs0⟩ := Aio 4 _ Tryz.underlying22 BcK (hval 0 22 v0 rfl (by rw [hargs]; rfl)) h0
 obtain ⟨r1, hr1, hl1, hs1⟩ := Aio 4 _ Tryz.underlying22 BcK (hval 1 22 v1 rfl (by rw [hargs]; rfl)) h1
 obtain ⟨z2, rfl, rfl, rfl, hw2⟩ := open_int Tryz.underlying5 (hval 2 5 v2 rfl (by rw [hargs]; rfl)) h2
 have hz2 : 0 ≤ z2 ∧ z2 < 256 := by
  simp [Lit.wf, IntKind.min, IntKind.max, IntKind.signed, IntKind.bits] at hw2
  omega
 obtain ⟨w3, rfl, rfl, rfl, hw3⟩ := open_float Tryz.underlying23 (hval 3 23 v3 rfl (by rw [hargs]; rfl)) h3
 subst hargs
 obtain ⟨E0, rfl, hE0⟩ := Ga.words_of r0 hs0
 obtain ⟨E1, rfl, hE1⟩ := Ga.words_of r1 hs1
 obtain ⟨n2, rfl⟩ : ∃ n : Nat, z2 = (n : Int) := ⟨z2.toNat, by omega⟩
 have hr2 : Rep [] (fun _ => False) W (.int .u8 (n2 : Int)) (.int .u8 (n2 : Int)) := rfl
 have hr3 : Rep [] (fun _ => False) W (.flt .f64 w3) (.float .f64 w3) := rfl
 obtain ⟨k, hk⟩ := Ga.orders_law E0 E1 n2 w3 hE0 hE1 (by omega) (of_decide_eq_true hw3)
 refine (BbS Ga.aokG Tryz.func4 ⟨k, hk k (Nat.le_refl _)⟩ (Aij hr0 (Aij hr1 (Aij hr2 (Aij hr3 ApU)))) (gok hL0) (by kernel_rfl) (by kernel_rfl)
  (K := fun W' => Rows.gaugeOrdersSpec.post enc Tryz.prog Tryz.f4 false true false false W #[v0, v1, .int .u8 (n2 : Int), .float .f64 w3] (.bool true) W') ?_).mono ?_
 ·intro W' he
  exact post_true laidOut (by kernel_rfl) (by kernel_rfl) rfl hW' rfl rfl rfl he
 ·rintro e W' ⟨v, rfl, rfl, h⟩
  exact ⟨_, rfl, h⟩
theorem named4 : Tryz.prog.funcNamed Rows.gaugeOrdersRow.func = some 4 := by kernel_rfl
theorem wf4 : Rows.gaugeOrdersRow.wfByText (OpenSpec.ofChange Rows.gaugeOrdersSpec) = true := by kernel_rfl
theorem main4 : Tryz.prog.mainIs = some (Rows.gaugeOrdersCard.stood.harness.1, Rows.gaugeOrdersCard.stood.harness.2.toList) := by kernel_rfl
theorem goes_no {P : Program} (h : P.funcs.any Func.goes = false) (f : FuncId) : P.goes f = false := by
 have h1 : ∀ g : Nat, (P.funcs[g]?).any Func.goes = false := fun g => by
  cases hg : P.funcs[g]? with
  | none => rfl
  | some fn =>
    have := Array.any_eq_false'.1 h fn (Array.mem_of_getElem? hg)
    simpa using this
 unfold Program.goes
 rw [h, Bool.and_false, Bool.or_false, List.any_eq_false]
 intro g _
 simp [h1 g]
theorem goes4 : false = Rows.gaugeOrdersRow.goesBy Tryz.prog := by
 unfold OpenClaim.goesBy Program.goesAt Program.goesFrom
 show false = (((Tryz.prog.funcNamed Rows.gaugeOrdersRow.func).any Tryz.prog.goes) || false)
 cases Tryz.prog.funcNamed Rows.gaugeOrdersRow.func with
 | none => rfl
 | some f => simp [goes_no noGo f]
theorem looks4 : false = Tryz.prog.looks [] := by kernel_rfl
theorem BcI : Tryz.prog.wantsStandIn 22 = false := by kernel_rfl
theorem stand23 : Tryz.prog.wantsStandIn 23 = false := by kernel_rfl
theorem stand5 : Tryz.prog.wantsStandIn 5 = false := by kernel_rfl
theorem inst4 : Tryz.f4.isInstance Tryz.prog Rows.gaugeOrdersRow.origin Rows.gaugeOrdersRow.targs := of_decide_eq_true (by kernel_rfl)
theorem wrap4 : Tryz.f4.isWrapper Tryz.prog Rows.gaugeOrdersRow.wrapper Rows.gaugeOrdersRow.mainSum := by unfold Func.isWrapper; first | (rw [if_pos (by decide +kernel)]; kernel_rfl) | (rw [if_neg (by decide +kernel)]; exact ⟨rfl, rfl⟩)
theorem gaugeOrders_row : Rows.GaugeOrdersSaid :=
 OpenClaim.holds_of_wide 4 Tryz.f4 rfl rfl rfl rfl rfl rfl rfl ⟨rfl, rfl, rfl, rfl, rfl⟩ rfl rfl rfl rfl rfl named4 Tryz.func4 gaugeOrdersJ inst4 wrap4
  (fun os started H enc _ => gaugeOrders_lifted os started H enc)
theorem gaugeOrders_holds : Rows.GaugeOrdersCardSaid :=
 Claim7.holds_tied_plain_at .later [] [.data, .data, .data, .data, .pinned, .pinned] true Rows.gaugeOrdersCard.stood.harness false gaugeOrders_row (fun _ h => by cases h) wf4 (fun _ h => by cases h) gaugeOrders_tie rfl ⟨rfl, rfl⟩ main4 rfl
  (fun f fn hf hfn => by
    obtain rfl : f = 4 := Option.some.inj (named4.symm.trans hf) |>.symm
    obtain rfl : fn = Tryz.f4 := (Option.some.inj (Tryz.func4.symm.trans hfn)).symm
    refine ⟨looks4, fun j t ht => ?_⟩
    rw [Tryz.params4] at ht
    match j, ht with
    | 0, ht =>
      have ht : some 22 = some t := ht
      cases ht
      exact BcI
    | 1, ht =>
      have ht : some 22 = some t := ht
      cases ht
      exact BcI
    | 2, ht =>
      have ht : some 5 = some t := ht
      cases ht
      exact stand5
    | 3, ht =>
      have ht : some 23 = some t := ht
      cases ht
      exact stand23
    | j + 4, ht => simp at ht)
  goes4
#print axioms gaugeOrders_holds
end Go.Proofs.YtjolcimbcbcahaaGreatDoor
