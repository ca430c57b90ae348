/- StatRates is proved: the law answers true at every input. Condition: the listed variables read as listed when the call begins; the card ties them to the program's text. -/
import Derived.Test.YtjolcimbcbcahaaGreatDoorP
import Derived.Test.YtjolcimbcbcahaaGreatDoorG
import Derived.Test.YtjolcimbcbcahaaGreatDoorF
import Derived.Test.YtjolcimbcbcahaaGreatDoorT
import Derived.Test.YtjolcimbcbcahaaGreatDoorW
import Derived.Test.YtjolcimbcbcahaaGreatDoorE4
import Derived.Test.YtjolcimbcbcahaaGreatDoorCards
import Derived.SevenTiedAt
import Derived.LaidOnce
import Derived.LaidSub
import Derived.ChangeMaps5
set_option linter.unusedSectionVars false
set_option linter.unusedVariables false
set_option linter.unusedSimpArgs false
set_option linter.unnecessarySimpa false
namespace Go.Proofs.YtjolcimbcbcahaaGreatDoor
open Go Go.Eng Go.Eng.Ses Go.RowKit Go.ChangeShapes Go.WideShapes Go.ChangeAt
theorem own : ownKnob Tryz.prog.godebug = none := by kernel_rfl
theorem shape123 : AmC Tryz.prog 4 123 = some (List.replicate 14 (.int .u64)) := by kernel_rfl
set_option maxRecDepth 100000 in
theorem Akc (os : Os) (started : os.Started) (H : Type) (enc : TypeId × Value → H) :
 ReturnsInHanded {} Tryz.checked os 8 .any (fun w args => (Rows.statRatesSpec.pre enc Tryz.prog Tryz.f8 [] false w args ∧ laidMetH Tryz.prog Rows.statRatesRow.laid w) ∧ sizedMet enc Tryz.prog Tryz.f8 (OpenSpec.ofChange Rows.statRatesSpec) false w args)
  (Rows.statRatesSpec.post enc Tryz.prog Tryz.f8 false true false false) := by
 refine returnsInHanded_of_change_and (C := Tryz.checked) (X := fun w _ => laidMetH Tryz.prog Rows.statRatesRow.laid w) (fun _ _ _ hh h => h.of_heap hh) own started (by kernel_rfl) Tryz.func8
  (ChangeSpec.witness_shaped (enc := enc) (C := Tryz.checked) (os := os) (X := fun w _ => laidMetH Tryz.prog Rows.statRatesRow.laid w) false (World.laidAll Tryz.prog os Rows.statRatesRow.laid) #[.agg (Array.replicate 14 (.int .u64 0)), .string ByteArray.empty, .int .u64 0, .int .u64 0] 8 (World.laidAll_os _ _ _)
    (World.shaped_of_ZipB (by kernel_rfl) (by kernel_rfl)) (by kernel_rfl) (by kernel_rfl) (by kernel_rfl)
    (by rw [MakeChecks.laidMetH_plain _ _ _ (by kernel_rfl)]; exact laidMet_laidAll _ (by kernel_rfl) (by kernel_rfl))) ?_
 intro W base args ds gs before hval0 hW _ _ hL _
 have hval : ∀ (j : Nat) t v, Tryz.f8.params[j]? = some t → args[j]? = some v → Value.okWide Tryz.prog W .any base t v := hval0
 have hW' := hW
 obtain ⟨p, q, hA0, hV, rfl, hfz, hnd⟩ := hW
 have hA : DataW.TrodAll enc Tryz.prog W 0 (fun _ => true) true Tryz.f8.params.toList args.toList ds p := hA0
 rw [Tryz.params8] at hA hval
 obtain ⟨v0, v1, v2, v3, d0, d1, d2, d3, p0, p1, p2, p3, hargs, rfl, rfl, h0, h1, h2, h3⟩ := trodAll_four hA
 obtain ⟨rfl, rfl⟩ := trodVars_none hV
 obtain ⟨xs0, hr0, hsh0⟩ := St.open_agg_rep 4 _ Tryz.underlying123 shape123 (hval 0 123 v0 rfl (by rw [hargs]; rfl)) h0
 obtain ⟨s1, rfl, rfl, rfl, hs1⟩ := ChangeMaps.open_string Tryz.underlying9 (hval 1 9 v1 rfl (by rw [hargs]; rfl)) h1
 obtain ⟨z2, rfl, rfl, rfl, hw2⟩ := open_int Tryz.underlying27 (hval 2 27 v2 rfl (by rw [hargs]; rfl)) h2
 have hz2 : 0 ≤ z2 ∧ z2 < 18446744073709551616 := by
  simp [Lit.wf, IntKind.min, IntKind.max, IntKind.signed, IntKind.bits] at hw2
  omega
 obtain ⟨z3, rfl, rfl, rfl, hw3⟩ := open_int Tryz.underlying27 (hval 3 27 v3 rfl (by rw [hargs]; rfl)) h3
 have hz3 : 0 ≤ z3 ∧ z3 < 18446744073709551616 := by
  simp [Lit.wf, IntKind.min, IntKind.max, IntKind.signed, IntKind.bits] at hw3
  omega
 subst hargs
 obtain ⟨L0, rfl, hl0, hx0⟩ := St.nats_of 14 xs0 hsh0
 have hr1 : Rep [] (fun _ => False) W (.str s1.data.toList) (.string s1) := ⟨s1, rfl, rfl⟩
 obtain ⟨n2, rfl⟩ : ∃ n : Nat, z2 = (n : Int) := ⟨z2.toNat, by omega⟩
 have hr2 : Rep [] (fun _ => False) W (.int .u64 (n2 : Int)) (.int .u64 (n2 : Int)) := rfl
 obtain ⟨n3, rfl⟩ : ∃ n : Nat, z3 = (n : Int) := ⟨z3.toNat, by omega⟩
 have hr3 : Rep [] (fun _ => False) W (.int .u64 (n3 : Int)) (.int .u64 (n3 : Int)) := rfl
 obtain ⟨k, hk⟩ := St.rates_law L0 ⟨hl0, hx0⟩ s1.data.toList n2 n3 (by omega) (by omega)
 refine (Bbj St.aokS Tryz.func8 ⟨k, hk k (Nat.le_refl _)⟩ (Agz hr0 (Agz hr1 (Agz hr2 (Agz hr3 AqN)))) (gok hL) (by kernel_rfl) (by kernel_rfl)
  (K := fun W' => Rows.statRatesSpec.post enc Tryz.prog Tryz.f8 false true false false W #[v0, .string s1, .int .u64 (n2 : Int), .int .u64 (n3 : Int)] (.bool true) W') ?_).mono ?_
 ·intro W' he
  exact Bcw laidOut (by kernel_rfl) (by kernel_rfl) rfl hW' rfl rfl rfl he
 ·rintro e W' ⟨v, rfl, rfl, h⟩
  exact ⟨_, rfl, h⟩
theorem named8 : Tryz.prog.funcNamed Rows.statRatesRow.func = some 8 := by kernel_rfl
theorem wf8 : Rows.statRatesRow.wfByText (OpenSpec.ofChange Rows.statRatesSpec) = true := by kernel_rfl
theorem main8 : Tryz.prog.mainIs = some (Rows.statRatesCard.stood.harness.1, Rows.statRatesCard.stood.harness.2.toList) := by kernel_rfl
theorem goes_no {P : Program} (h : P.funcs.any Func.goes = false) (f : FuncId) : P.goes f = false := by
 have h1 : ∀ g : Nat, (P.funcs[g]?).any Func.goes = false := fun g => by
  cases hg : P.funcs[g]? with
  | none => rfl
  | some fn =>
    have := Array.any_eq_false'.1 h fn (Array.mem_of_getElem? hg)
    simpa using this
 unfold Program.goes
 rw [h, Bool.and_false, Bool.or_false, List.any_eq_false]
 intro g _
 simp [h1 g]
theorem goes8 : false = Rows.statRatesRow.goesBy Tryz.prog := by
 unfold OpenClaim.goesBy Program.goesAt Program.goesFrom
 show false = (((Tryz.prog.funcNamed Rows.statRatesRow.func).any Tryz.prog.goes) || false)
 cases Tryz.prog.funcNamed Rows.statRatesRow.func with
 | none => rfl
 | some f => simp [goes_no noGo f]
theorem looks8 : false = Tryz.prog.looks [] := by kernel_rfl
theorem stand9 : Tryz.prog.wantsStandIn 9 = false := by kernel_rfl
theorem stand27 : Tryz.prog.wantsStandIn 27 = false := by kernel_rfl
theorem stand123 : Tryz.prog.wantsStandIn 123 = false := by kernel_rfl
theorem inst8 : Tryz.f8.isInstance Tryz.prog Rows.statRatesRow.origin Rows.statRatesRow.targs := of_decide_eq_true (by kernel_rfl)
theorem wrap8 : Tryz.f8.isWrapper Tryz.prog Rows.statRatesRow.wrapper Rows.statRatesRow.mainSum := by unfold Func.isWrapper; first | (rw [if_pos (by decide +kernel)]; kernel_rfl) | (rw [if_neg (by decide +kernel)]; exact ⟨rfl, rfl⟩)
theorem Aor : Rows.StatRatesSaid :=
 OpenClaim.holds_of_wide 8 Tryz.f8 rfl rfl rfl rfl rfl rfl rfl ⟨rfl, rfl, rfl, rfl, rfl⟩ rfl rfl rfl rfl rfl named8 Tryz.func8 statRatesJ inst8 wrap8
  (fun os started H enc _ => Akc os started H enc)
theorem statRates_holds : Rows.StatRatesCardSaid :=
 Claim7.holds_tied_plain_at .later [] [.data, .data, .data, .data, .listed, .data, .pinned, .pinned] true Rows.statRatesCard.stood.harness false Aor (fun _ h => by cases h) wf8 (fun _ h => by cases h) Aoq rfl ⟨rfl, rfl⟩ main8 rfl
  (fun f fn hf hfn => by
    obtain rfl : f = 8 := Option.some.inj (named8.symm.trans hf) |>.symm
    obtain rfl : fn = Tryz.f8 := (Option.some.inj (Tryz.func8.symm.trans hfn)).symm
    refine ⟨looks8, fun j t ht => ?_⟩
    rw [Tryz.params8] at ht
    match j, ht with
    | 0, ht =>
      have ht : some 123 = some t := ht
      cases ht
      exact stand123
    | 1, ht =>
      have ht : some 9 = some t := ht
      cases ht
      exact stand9
    | 2, ht =>
      have ht : some 27 = some t := ht
      cases ht
      exact stand27
    | 3, ht =>
      have ht : some 27 = some t := ht
      cases ht
      exact stand27
    | j + 4, ht => simp at ht)
  goes8
#print axioms statRates_holds
end Go.Proofs.YtjolcimbcbcahaaGreatDoor
