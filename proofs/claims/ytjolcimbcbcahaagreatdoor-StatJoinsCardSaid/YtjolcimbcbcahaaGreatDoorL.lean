/- StatJoins is proved: the law answers true at every input. Condition: the listed variables read as listed when the call begins; the card ties them to the program's text. -/
import Derived.Test.YtjolcimbcbcahaaGreatDoorP
import Derived.Test.YtjolcimbcbcahaaGreatDoorG
import Derived.Test.YtjolcimbcbcahaaGreatDoorF
import Derived.Test.YtjolcimbcbcahaaGreatDoorT
import Derived.Test.YtjolcimbcbcahaaGreatDoorW
import Derived.Test.YtjolcimbcbcahaaGreatDoorE4
import Derived.Test.YtjolcimbcbcahaaGreatDoorCards
import Derived.SevenTiedAt
import Derived.LaidOnce
import Derived.LaidSub
import Derived.ChangeMaps5
set_option linter.unusedSectionVars false
set_option linter.unusedVariables false
set_option linter.unusedSimpArgs false
set_option linter.unnecessarySimpa false
namespace Go.Proofs.YtjolcimbcbcahaaGreatDoor
open Go Go.Eng Go.Eng.Ses Go.RowKit Go.ChangeShapes Go.WideShapes Go.ChangeAt
theorem own : ownKnob Tryz.prog.godebug = none := by kernel_rfl
theorem shape123 : AmC Tryz.prog 4 123 = some (List.replicate 14 (.int .u64)) := by kernel_rfl
set_option maxRecDepth 100000 in
theorem Akc (os : Os) (started : os.Started) (H : Type) (enc : TypeId × Value → H) :
 ReturnsInHanded {} Tryz.checked os 9 .any (fun w args => (Rows.statJoinsSpec.pre enc Tryz.prog Tryz.f9 [] false w args ∧ laidMetH Tryz.prog Rows.statJoinsRow.laid w) ∧ sizedMet enc Tryz.prog Tryz.f9 (OpenSpec.ofChange Rows.statJoinsSpec) false w args)
  (Rows.statJoinsSpec.post enc Tryz.prog Tryz.f9 false true false false) := by
 refine returnsInHanded_of_change_and (C := Tryz.checked) (X := fun w _ => laidMetH Tryz.prog Rows.statJoinsRow.laid w) (fun _ _ _ hh h => h.of_heap hh) own started (by kernel_rfl) Tryz.func9
  (ChangeSpec.witness_shaped (enc := enc) (C := Tryz.checked) (os := os) (X := fun w _ => laidMetH Tryz.prog Rows.statJoinsRow.laid w) false (World.laidAll Tryz.prog os Rows.statJoinsRow.laid) #[.agg (Array.replicate 14 (.int .u64 0)), .agg (Array.replicate 14 (.int .u64 0))] 8 (World.laidAll_os _ _ _)
    (World.shaped_of_ZipB (by kernel_rfl) (by kernel_rfl)) (by kernel_rfl) (by kernel_rfl) (by kernel_rfl)
    (by rw [MakeChecks.laidMetH_plain _ _ _ (by kernel_rfl)]; exact laidMet_laidAll _ (by kernel_rfl) (by kernel_rfl))) ?_
 intro W base args ds gs before hval0 hW _ _ hL _
 have hval : ∀ (j : Nat) t v, Tryz.f9.params[j]? = some t → args[j]? = some v → Value.okWide Tryz.prog W .any base t v := hval0
 have hW' := hW
 obtain ⟨p, q, hA0, hV, rfl, hfz, hnd⟩ := hW
 have hA : DataW.TrodAll enc Tryz.prog W 0 (fun _ => true) true Tryz.f9.params.toList args.toList ds p := hA0
 rw [Tryz.params9] at hA hval
 obtain ⟨v0, v1, d0, d1, p0, p1, hargs, rfl, rfl, h0, h1⟩ := trodAll_two hA
 obtain ⟨rfl, rfl⟩ := trodVars_none hV
 obtain ⟨xs0, hr0, hsh0⟩ := St.open_agg_rep 4 _ Tryz.underlying123 shape123 (hval 0 123 v0 rfl (by rw [hargs]; rfl)) h0
 obtain ⟨xs1, hr1, hsh1⟩ := St.open_agg_rep 4 _ Tryz.underlying123 shape123 (hval 1 123 v1 rfl (by rw [hargs]; rfl)) h1
 subst hargs
 obtain ⟨L0, rfl, hl0, hx0⟩ := St.nats_of 14 xs0 hsh0
 obtain ⟨L1, rfl, hl1, hx1⟩ := St.nats_of 14 xs1 hsh1
 obtain ⟨k, hk⟩ := St.joins_law L0 L1 ⟨hl0, hx0⟩ ⟨hl1, hx1⟩
 refine (Bbj St.aokS Tryz.func9 ⟨k, hk k (Nat.le_refl _)⟩ (Agz hr0 (Agz hr1 AqN)) (gok hL) (by kernel_rfl) (by kernel_rfl)
  (K := fun W' => Rows.statJoinsSpec.post enc Tryz.prog Tryz.f9 false true false false W #[v0, v1] (.bool true) W') ?_).mono ?_
 ·intro W' he
  exact Bcw laidOut (by kernel_rfl) (by kernel_rfl) rfl hW' rfl rfl rfl he
 ·rintro e W' ⟨v, rfl, rfl, h⟩
  exact ⟨_, rfl, h⟩
theorem named9 : Tryz.prog.funcNamed Rows.statJoinsRow.func = some 9 := by kernel_rfl
theorem wf9 : Rows.statJoinsRow.wfByText (OpenSpec.ofChange Rows.statJoinsSpec) = true := by kernel_rfl
theorem main9 : Tryz.prog.mainIs = some (Rows.statJoinsCard.stood.harness.1, Rows.statJoinsCard.stood.harness.2.toList) := by kernel_rfl
theorem goes_no {P : Program} (h : P.funcs.any Func.goes = false) (f : FuncId) : P.goes f = false := by
 have h1 : ∀ g : Nat, (P.funcs[g]?).any Func.goes = false := fun g => by
  cases hg : P.funcs[g]? with
  | none => rfl
  | some fn =>
    have := Array.any_eq_false'.1 h fn (Array.mem_of_getElem? hg)
    simpa using this
 unfold Program.goes
 rw [h, Bool.and_false, Bool.or_false, List.any_eq_false]
 intro g _
 simp [h1 g]
theorem goes9 : false = Rows.statJoinsRow.goesBy Tryz.prog := by
 unfold OpenClaim.goesBy Program.goesAt Program.goesFrom
 show false = (((Tryz.prog.funcNamed Rows.statJoinsRow.func).any Tryz.prog.goes) || false)
 cases Tryz.prog.funcNamed Rows.statJoinsRow.func with
 | none => rfl
 | some f => simp [goes_no noGo f]
theorem looks9 : false = Tryz.prog.looks [] := by kernel_rfl
theorem stand123 : Tryz.prog.wantsStandIn 123 = false := by kernel_rfl
theorem inst9 : Tryz.f9.isInstance Tryz.prog Rows.statJoinsRow.origin Rows.statJoinsRow.targs := of_decide_eq_true (by kernel_rfl)
theorem wrap9 : Tryz.f9.isWrapper Tryz.prog Rows.statJoinsRow.wrapper Rows.statJoinsRow.mainSum := by unfold Func.isWrapper; first | (rw [if_pos (by decide +kernel)]; kernel_rfl) | (rw [if_neg (by decide +kernel)]; exact ⟨rfl, rfl⟩)
theorem Aor : Rows.StatJoinsSaid :=
 OpenClaim.holds_of_wide 9 Tryz.f9 rfl rfl rfl rfl rfl rfl rfl ⟨rfl, rfl, rfl, rfl, rfl⟩ rfl rfl rfl rfl rfl named9 Tryz.func9 statJoinsJ inst9 wrap9
  (fun os started H enc _ => Akc os started H enc)
theorem statJoins_holds : Rows.StatJoinsCardSaid :=
 Claim7.holds_tied_plain_at .later [] [.data, .data, .data, .data, .listed, .data, .pinned, .pinned] true Rows.statJoinsCard.stood.harness false Aor (fun _ h => by cases h) wf9 (fun _ h => by cases h) Aoq rfl ⟨rfl, rfl⟩ main9 rfl
  (fun f fn hf hfn => by
    obtain rfl : f = 9 := Option.some.inj (named9.symm.trans hf) |>.symm
    obtain rfl : fn = Tryz.f9 := (Option.some.inj (Tryz.func9.symm.trans hfn)).symm
    refine ⟨looks9, fun j t ht => ?_⟩
    rw [Tryz.params9] at ht
    match j, ht with
    | 0, ht =>
      have ht : some 123 = some t := ht
      cases ht
      exact stand123
    | 1, ht =>
      have ht : some 123 = some t := ht
      cases ht
      exact stand123
    | j + 2, ht => simp at ht)
  goes9
#print axioms statJoins_holds
end Go.Proofs.YtjolcimbcbcahaaGreatDoor
