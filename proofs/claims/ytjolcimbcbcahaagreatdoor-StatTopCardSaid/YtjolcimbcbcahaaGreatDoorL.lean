/- StatTop is proved: the law answers true at every input. Condition: the listed variables read as listed when the call begins; the card ties them to the program's text. -/
import Derived.Test.YtjolcimbcbcahaaGreatDoorP
import Derived.Test.YtjolcimbcbcahaaGreatDoorG
import Derived.Test.YtjolcimbcbcahaaGreatDoorF
import Derived.Test.YtjolcimbcbcahaaGreatDoorT
import Derived.Test.YtjolcimbcbcahaaGreatDoorW
import Derived.Test.YtjolcimbcbcahaaGreatDoorE4
import Derived.Test.YtjolcimbcbcahaaGreatDoorCards
import Derived.SevenTiedAt
import Derived.LaidOnce
import Derived.LaidSub
import Derived.ChangeMaps5
set_option linter.unusedSectionVars false
set_option linter.unusedVariables false
set_option linter.unusedSimpArgs false
set_option linter.unnecessarySimpa false
namespace Go.Proofs.YtjolcimbcbcahaaGreatDoor
open Go Go.Eng Go.Eng.Ses Go.RowKit Go.ChangeShapes Go.WideShapes Go.ChangeAt
theorem own : ownKnob Tryz.prog.godebug = none := by kernel_rfl
theorem shape123 : shapeT Tryz.prog 4 123 = some (List.replicate 14 (.int .u64)) := by kernel_rfl
set_option maxRecDepth 100000 in
theorem statTop_lifted (os : Os) (started : os.Started) (H : Type) (enc : TypeId × Value → H) :
 ReturnsInHanded {} Tryz.checked os 11 .any (fun w args => (Rows.statTopSpec.pre enc Tryz.prog Tryz.f11 [] false w args ∧ laidMetH Tryz.prog Rows.statTopRow.laid w) ∧ sizedMet enc Tryz.prog Tryz.f11 (OpenSpec.ofChange Rows.statTopSpec) false w args)
  (Rows.statTopSpec.post enc Tryz.prog Tryz.f11 false true false false) := by
 refine returnsInHanded_of_change_and (C := Tryz.checked) (X := fun w _ => laidMetH Tryz.prog Rows.statTopRow.laid w) (fun _ _ _ hh h => h.of_heap hh) own started (by kernel_rfl) Tryz.func11
  (ChangeSpec.witness_shaped (enc := enc) (C := Tryz.checked) (os := os) (X := fun w _ => laidMetH Tryz.prog Rows.statTopRow.laid w) false (World.laidAll Tryz.prog os Rows.statTopRow.laid) #[.agg (Array.replicate 14 (.int .u64 0)), .string ByteArray.empty] 8 (World.laidAll_os _ _ _)
    (World.shaped_of_ZipB (by kernel_rfl) (by kernel_rfl)) (by kernel_rfl) (by kernel_rfl) (by kernel_rfl)
    (by rw [MakeChecks.laidMetH_plain _ _ _ (by kernel_rfl)]; exact laidMet_laidAll _ (by kernel_rfl) (by kernel_rfl))) ?_
 intro W base args ds gs before hval0 hW _ _ hL _
 have hval : ∀ (j : Nat) t v, Tryz.f11.params[j]? = some t → args[j]? = some v → Value.okWide Tryz.prog W .any base t v := hval0
 have hW' := hW
 obtain ⟨p, q, hA0, hV, rfl, hfz, hnd⟩ := hW
 have hA : DataW.TrodAll enc Tryz.prog W 0 (fun _ => true) true Tryz.f11.params.toList args.toList ds p := hA0
 rw [Tryz.params11] at hA hval
 obtain ⟨v0, v1, d0, d1, p0, p1, hargs, rfl, rfl, h0, h1⟩ := trodAll_two hA
 obtain ⟨rfl, rfl⟩ := trodVars_none hV
 obtain ⟨xs, hr0, hsh⟩ := St.open_agg_rep 4 _ Tryz.underlying123 shape123 (hval 0 123 v0 rfl (by rw [hargs]; rfl)) h0
 obtain ⟨s, rfl, rfl, rfl, hs⟩ := ChangeMaps.open_string Tryz.underlying9 (hval 1 9 v1 rfl (by rw [hargs]; rfl)) h1
 subst hargs
 obtain ⟨L, rfl, hl, hx⟩ := St.nats_of 14 xs hsh
 have hr1 : Rep [] (fun _ => False) W (.str s.data.toList) (.string s) := ⟨s, rfl, rfl⟩
 obtain ⟨k, hk⟩ := St.top_law L ⟨hl, hx⟩ s.data.toList
 refine (calls_true St.aokS Tryz.func11 ⟨k, hk k (Nat.le_refl _)⟩ (repV_cons hr0 (repV_cons hr1 repV_nil)) (gok hL) (by kernel_rfl) (by kernel_rfl)
  (K := fun W' => Rows.statTopSpec.post enc Tryz.prog Tryz.f11 false true false false W #[v0, .string s] (.bool true) W') ?_).mono ?_
 ·intro W' he
  exact post_true laidOut (by kernel_rfl) (by kernel_rfl) rfl hW' rfl rfl rfl he
 ·rintro e W' ⟨v, rfl, rfl, h⟩
  exact ⟨_, rfl, h⟩
theorem named11 : Tryz.prog.funcNamed Rows.statTopRow.func = some 11 := by kernel_rfl
theorem wf11 : Rows.statTopRow.wfByText (OpenSpec.ofChange Rows.statTopSpec) = true := by kernel_rfl
theorem main11 : Tryz.prog.mainIs = some (Rows.statTopCard.stood.harness.1, Rows.statTopCard.stood.harness.2.toList) := by kernel_rfl
theorem goes_no {P : Program} (h : P.funcs.any Func.goes = false) (f : FuncId) : P.goes f = false := by
 have h1 : ∀ g : Nat, (P.funcs[g]?).any Func.goes = false := fun g => by
  cases hg : P.funcs[g]? with
  | none => rfl
  | some fn =>
    have := Array.any_eq_false'.1 h fn (Array.mem_of_getElem? hg)
    simpa using this
 unfold Program.goes
 rw [h, Bool.and_false, Bool.or_false, List.any_eq_false]
 intro g _
 simp [h1 g]
theorem goes11 : false = Rows.statTopRow.goesBy Tryz.prog := by
 unfold OpenClaim.goesBy Program.goesAt Program.goesFrom
 show false = (((Tryz.prog.funcNamed Rows.statTopRow.func).any Tryz.prog.goes) || false)
 cases Tryz.prog.funcNamed Rows.statTopRow.func with
 | none => rfl
 | some f => simp [goes_no noGo f]
theorem looks11 : false = Tryz.prog.looks [] := by kernel_rfl
theorem stand123 : Tryz.prog.wantsStandIn 123 = false := by kernel_rfl
theorem stand9 : Tryz.prog.wantsStandIn 9 = false := by kernel_rfl
theorem inst11 : Tryz.f11.isInstance Tryz.prog Rows.statTopRow.origin Rows.statTopRow.targs := of_decide_eq_true (by kernel_rfl)
theorem wrap11 : Tryz.f11.isWrapper Tryz.prog Rows.statTopRow.wrapper Rows.statTopRow.mainSum := by unfold Func.isWrapper; first | (rw [if_pos (by decide +kernel)]; kernel_rfl) | (rw [if_neg (by decide +kernel)]; exact ⟨rfl, rfl⟩)
theorem statTop_row : Rows.StatTopSaid :=
 OpenClaim.holds_of_wide 11 Tryz.f11 rfl rfl rfl rfl rfl rfl rfl ⟨rfl, rfl, rfl, rfl, rfl⟩ rfl rfl rfl rfl rfl named11 Tryz.func11 statTopJ inst11 wrap11
  (fun os started H enc _ => statTop_lifted os started H enc)
theorem statTop_holds : Rows.StatTopCardSaid :=
 Claim7.holds_tied_plain_at .later [] [.data, .data, .data, .data, .listed, .data, .pinned, .pinned] true Rows.statTopCard.stood.harness false statTop_row (fun _ h => by cases h) wf11 (fun _ h => by cases h) statTop_tie rfl ⟨rfl, rfl⟩ main11 rfl
  (fun f fn hf hfn => by
    obtain rfl : f = 11 := Option.some.inj (named11.symm.trans hf) |>.symm
    obtain rfl : fn = Tryz.f11 := (Option.some.inj (Tryz.func11.symm.trans hfn)).symm
    refine ⟨looks11, fun j t ht => ?_⟩
    rw [Tryz.params11] at ht
    match j, ht with
    | 0, ht =>
      have ht : some 123 = some t := ht
      cases ht
      exact stand123
    | 1, ht =>
      have ht : some 9 = some t := ht
      cases ht
      exact stand9
    | j + 2, ht => simp at ht)
  goes11
#print axioms statTop_holds
end Go.Proofs.YtjolcimbcbcahaaGreatDoor
