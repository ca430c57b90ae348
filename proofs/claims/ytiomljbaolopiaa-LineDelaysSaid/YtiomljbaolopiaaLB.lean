/- LineDelays is proved: whatever the input, it answers true and leaves its input as it was; no condition. -/
import Derived.Test.YtiomljbaolopiaaLA
import Derived.Test.YtiomljbaolopiaaRows
import Derived.KernelRfl
import Derived.Test.YtiomljbaolopiaaLC
import Derived.Test.YtiomljbaolopiaaE4
set_option linter.unusedSectionVars false
set_option linter.unusedVariables false
set_option linter.unusedSimpArgs false
set_option linter.unnecessarySimpa false
/- The machine's code is the program's. -/
namespace Go.Eng.Line
open Go Go.Eng Go.Proofs

theorem code3 : compileAt Try.prog 3 = some c3 := by kernel_rfl
theorem code4 : compileAt Try.prog 4 = some c4 := by kernel_rfl
theorem code5 : compileAt Try.prog 5 = some c5 := by kernel_rfl
theorem code6 : compileAt Try.prog 6 = some c6 := by kernel_rfl
theorem code11 : compileAt Try.prog 11 = some c11 := by kernel_rfl
theorem code12 : compileAt Try.prog 12 = some c12 := by kernel_rfl
theorem code13 : compileAt Try.prog 13 = some c13 := by kernel_rfl
theorem code14 : compileAt Try.prog 14 = some c14 := by kernel_rfl
theorem code15 : compileAt Try.prog 15 = some c15 := by kernel_rfl
theorem code16 : compileAt Try.prog 16 = some c16 := by kernel_rfl
theorem code17 : compileAt Try.prog 17 = some c17 := by kernel_rfl
theorem code18 : compileAt Try.prog 18 = some c18 := by kernel_rfl
theorem code19 : compileAt Try.prog 19 = some c19 := by kernel_rfl
theorem code20 : compileAt Try.prog 20 = some c20 := by kernel_rfl
theorem code21 : compileAt Try.prog 21 = some c21 := by kernel_rfl
theorem code22 : compileAt Try.prog 22 = some c22 := by kernel_rfl
theorem code23 : compileAt Try.prog 23 = some c23 := by kernel_rfl
theorem code24 : compileAt Try.prog 24 = some c24 := by kernel_rfl
theorem code25 : compileAt Try.prog 25 = some c25 := by kernel_rfl
theorem code26 : compileAt Try.prog 26 = some c26 := by kernel_rfl
theorem code27 : compileAt Try.prog 27 = some c27 := by kernel_rfl
theorem code28 : compileAt Try.prog 28 = some c28 := by kernel_rfl
theorem code29 : compileAt Try.prog 29 = some c29 := by kernel_rfl
theorem code40 : compileAt Try.prog 40 = some c40 := by kernel_rfl
theorem code41 : compileAt Try.prog 41 = some c41 := by kernel_rfl
theorem code42 : compileAt Try.prog 42 = some c42 := by kernel_rfl
theorem code43 : compileAt Try.prog 43 = some c43 := by kernel_rfl
theorem code44 : compileAt Try.prog 44 = some c44 := by kernel_rfl
theorem code45 : compileAt Try.prog 45 = some c45 := by kernel_rfl
theorem code46 : compileAt Try.prog 46 = some c46 := by kernel_rfl
theorem code53 : compileAt Try.prog 53 = some c53 := by kernel_rfl
theorem code60 : compileAt Try.prog 60 = some c60 := by kernel_rfl
theorem code61 : compileAt Try.prog 61 = some c61 := by kernel_rfl
theorem code62 : compileAt Try.prog 62 = some c62 := by kernel_rfl

theorem aok : AOk Try.prog AP where
  fn f af h := by
    simp only [AP] at h
    unfold fn at h
    split at h
    · cases h; exact code3
    · cases h; exact code4
    · cases h; exact code5
    · cases h; exact code6
    · cases h; exact code11
    · cases h; exact code12
    · cases h; exact code13
    · cases h; exact code14
    · cases h; exact code15
    · cases h; exact code16
    · cases h; exact code17
    · cases h; exact code18
    · cases h; exact code19
    · cases h; exact code20
    · cases h; exact code21
    · cases h; exact code22
    · cases h; exact code23
    · cases h; exact code24
    · cases h; exact code25
    · cases h; exact code26
    · cases h; exact code27
    · cases h; exact code28
    · cases h; exact code29
    · cases h; exact code40
    · cases h; exact code41
    · cases h; exact code42
    · cases h; exact code43
    · cases h; exact code44
    · cases h; exact code45
    · cases h; exact code46
    · cases h; exact code53
    · cases h; exact code60
    · cases h; exact code61
    · cases h; exact code62
    · cases h
  prim f p h := by cases h

end Go.Eng.Line

/- LineDelays, proved. -/
namespace Go.Proofs.Ytiomljbaolopiaa
open Go Go.Eng Go.RowKit Go.ChangeShapes Go.WideShapes Go.ChangeAt

theorem ownD : ownKnob Try.prog.godebug = none := by kernel_rfl
theorem laidOutD : laidOutB Try.prog = true := by kernel_rfl

theorem wf16 {n : Int} (h : (Lit.int .u16 n).wf = true) : 0 ≤ n ∧ n < 65536 := by
  simp [Lit.wf, IntKind.min, IntKind.max, IntKind.signed, IntKind.bits] at h
  omega

set_option maxRecDepth 100000 in
theorem lineDelays_lifted (os : Os) (started : os.Started) (H : Type) (enc : TypeId × Value → H) :
    ReturnsInHanded {} Try.checked os 4 .any (Rows.lineDelaysSpec.pre6 enc Try.prog Try.f4 Rows.lineDelaysRow.domain false) (Rows.lineDelaysSpec.post enc Try.prog Try.f4 false true false false) := by
  refine returnsInHanded_of_change (C := Try.checked) ownD started (by kernel_rfl) Try.func4
    (ChangeSpec.witness6 (enc := enc) (C := Try.checked) false ⟨#[], #[.slice none 0 0, .slice none 0 0, .int .u64 0], []⟩ 8 (by kernel_rfl) (by kernel_rfl) (by kernel_rfl) (by kernel_rfl)) ?_
  intro W base args ds gs before hval0 hW hcnd _
  have hval : ∀ (j : Nat) t v, Try.f4.params[j]? = some t → args[j]? = some v → Value.okWide Try.prog W .any base t v := hval0
  have hW' := hW
  obtain ⟨p, q, hA0, hV, rfl, hfz, hnd⟩ := hW
  have hA : DataW.TrodAll enc Try.prog W 0 (fun _ => true) true Try.f4.params.toList args.toList ds p := hA0
  rw [Try.params4] at hA hval
  obtain ⟨v0, v1, v2, d0, d1, d2, p0, p1, p2, hargs, rfl, rfl, h0, h1, h2⟩ := trodAll_three hA
  obtain ⟨rfl, rfl⟩ := trodVars_none hV
  obtain ⟨ss, hr0, _, _⟩ := open_strs_rep (el := 9) Try.underlying41 (by kernel_rfl) (by kernel_rfl) (hval 0 41 v0 rfl (by rw [hargs]; rfl)) h0
  obtain ⟨zs, hr1, hwf, _⟩ := open_ints_rep (el := 30) (k := .u16) Try.underlying42 (by kernel_rfl) (by kernel_rfl) (hval 1 42 v1 rfl (by rw [hargs]; rfl)) h1
  obtain ⟨n, rfl, rfl, rfl, wn⟩ := open_int Try.underlying23 (hval 2 23 v2 rfl (by rw [hargs]; rfl)) h2
  subst hargs
  obtain ⟨k, hk⟩ := Line.delays_ok ss zs n (fun x hx => wf16 (hwf x hx))
  refine (calls_true Line.aok Try.func4 ⟨k, hk k (Nat.le_refl _)⟩ (repV_cons hr0 (repV_cons hr1 (repV_cons rfl repV_nil))) (by kernel_rfl) (by kernel_rfl)
    (K := fun W' => Rows.lineDelaysSpec.post enc Try.prog Try.f4 false true false false W #[v0, v1, .int .u64 n] (.bool true) W') ?_).mono ?_
  · intro W' he
    exact post_true laidOutD (by kernel_rfl) (by kernel_rfl) rfl hW' rfl rfl rfl he
  · rintro e W' ⟨v, rfl, rfl, h⟩
    exact ⟨_, rfl, h⟩

theorem lineDelays_holds : Rows.LineDelaysSaid :=
  OpenClaim.holds_of_wide 4 Try.f4 rfl rfl rfl rfl rfl rfl rfl ⟨rfl, rfl, rfl, rfl, rfl⟩ rfl rfl rfl rfl rfl (by kernel_rfl) Try.func4 (by kernel_rfl)
    (of_decide_eq_true (by kernel_rfl)) (by unfold Func.isWrapper; first | (rw [if_pos (by decide +kernel)]; kernel_rfl) | (rw [if_neg (by decide +kernel)]; exact ⟨rfl, rfl⟩))
    (fun os started H enc _ => lineDelays_lifted os started H enc)

#print axioms lineDelays_holds
end Go.Proofs.Ytiomljbaolopiaa

