/- ReceiverFollows is proved: whatever the input, it answers true and leaves its input as it was; no condition. -/
import Derived.Test.YtiomljbaolopiaaLA
import Derived.Test.YtiomljbaolopiaaRows
import Derived.KernelRfl
import Derived.Test.YtiomljbaolopiaaLF
import Derived.Test.YtiomljbaolopiaaE5
set_option linter.unusedSectionVars false
set_option linter.unusedVariables false
set_option linter.unusedSimpArgs false
set_option linter.unnecessarySimpa false
/- The machine's code is the program's. -/
namespace Go.Eng.Recv
open Go Go.Eng Go.Proofs

theorem code7 : compileAt Try.prog 7 = some c7 := by kernel_rfl
theorem code8 : compileAt Try.prog 8 = some c8 := by kernel_rfl
theorem code9 : compileAt Try.prog 9 = some c9 := by kernel_rfl
theorem code10 : compileAt Try.prog 10 = some c10 := by kernel_rfl
theorem code30 : compileAt Try.prog 30 = some c30 := by kernel_rfl
theorem code31 : compileAt Try.prog 31 = some c31 := by kernel_rfl
theorem code32 : compileAt Try.prog 32 = some c32 := by kernel_rfl
theorem code33 : compileAt Try.prog 33 = some c33 := by kernel_rfl
theorem code34 : compileAt Try.prog 34 = some c34 := by kernel_rfl
theorem code35 : compileAt Try.prog 35 = some c35 := by kernel_rfl
theorem code36 : compileAt Try.prog 36 = some c36 := by kernel_rfl
theorem code37 : compileAt Try.prog 37 = some c37 := by kernel_rfl
theorem code38 : compileAt Try.prog 38 = some c38 := by kernel_rfl
theorem code39 : compileAt Try.prog 39 = some c39 := by kernel_rfl
theorem code40 : compileAt Try.prog 40 = some c40 := by kernel_rfl
theorem code43 : compileAt Try.prog 43 = some c43 := by kernel_rfl
theorem code47 : compileAt Try.prog 47 = some c47 := by kernel_rfl
theorem code48 : compileAt Try.prog 48 = some c48 := by kernel_rfl
theorem code49 : compileAt Try.prog 49 = some c49 := by kernel_rfl
theorem code50 : compileAt Try.prog 50 = some c50 := by kernel_rfl
theorem code52 : compileAt Try.prog 52 = some c52 := by kernel_rfl
theorem code53 : compileAt Try.prog 53 = some c53 := by kernel_rfl
theorem code54 : compileAt Try.prog 54 = some c54 := by kernel_rfl
theorem code55 : compileAt Try.prog 55 = some c55 := by kernel_rfl
theorem code56 : compileAt Try.prog 56 = some c56 := by kernel_rfl
theorem code57 : compileAt Try.prog 57 = some c57 := by kernel_rfl
theorem code60 : compileAt Try.prog 60 = some c60 := by kernel_rfl
theorem code61 : compileAt Try.prog 61 = some c61 := by kernel_rfl
theorem code62 : compileAt Try.prog 62 = some c62 := by kernel_rfl
theorem code63 : compileAt Try.prog 63 = some c63 := by kernel_rfl
theorem code64 : compileAt Try.prog 64 = some c64 := by kernel_rfl
theorem code65 : compileAt Try.prog 65 = some c65 := by kernel_rfl
theorem code66 : compileAt Try.prog 66 = some c66 := by kernel_rfl
theorem code67 : compileAt Try.prog 67 = some c67 := by kernel_rfl
theorem code68 : compileAt Try.prog 68 = some c68 := by kernel_rfl
theorem code69 : compileAt Try.prog 69 = some c69 := by kernel_rfl
theorem code70 : compileAt Try.prog 70 = some c70 := by kernel_rfl
theorem code72 : compileAt Try.prog 72 = some c72 := by kernel_rfl
theorem code73 : compileAt Try.prog 73 = some c73 := by kernel_rfl
theorem code74 : compileAt Try.prog 74 = some c74 := by kernel_rfl
theorem code75 : compileAt Try.prog 75 = some c75 := by kernel_rfl
theorem code76 : compileAt Try.prog 76 = some c76 := by kernel_rfl
theorem code77 : compileAt Try.prog 77 = some c77 := by kernel_rfl
theorem code78 : compileAt Try.prog 78 = some c78 := by kernel_rfl
theorem code79 : compileAt Try.prog 79 = some c79 := by kernel_rfl
theorem code51 : compileAt Try.prog 51 = some (insF 58 59) := by kernel_rfl
theorem chk51 : insChk Try.prog 51 = true := by kernel_rfl

def AP0 : AProg := ⟨fun _ => none, fun _ => false, fun f => if Nat.beq f 58 then some (ovPrim 2) else none, fun _ => false⟩
theorem ov58 : PrimOk Try.prog 58 (ovPrim 2) :=
  overlaps_ok (tS := 72) (tR := 4) (e := 103) Try.func58 (by kernel_rfl) (by kernel_rfl) (by kernel_rfl) (by kernel_rfl) (by kernel_rfl) (by kernel_rfl)
theorem aok0 : AOk Try.prog AP0 where
  fn f af h := by cases h
  prim f p h := by
    simp only [AP0] at h
    split at h
    · rename_i hb
      have := Nat.eq_of_beq_eq_true hb
      subst this
      cases h
      exact ov58
    · cases h
theorem ins51 : PrimOk Try.prog 51 (primKeep insG) := insert_ok aok0 code51 rfl chk51

theorem aok : AOk Try.prog AP where
  fn f af h := by
    simp only [AP] at h
    unfold fn at h
    split at h
    · cases h; exact code7
    · cases h; exact code8
    · cases h; exact code9
    · cases h; exact code10
    · cases h; exact code30
    · cases h; exact code31
    · cases h; exact code32
    · cases h; exact code33
    · cases h; exact code34
    · cases h; exact code35
    · cases h; exact code36
    · cases h; exact code37
    · cases h; exact code38
    · cases h; exact code39
    · cases h; exact code40
    · cases h; exact code43
    · cases h; exact code47
    · cases h; exact code48
    · cases h; exact code49
    · cases h; exact code50
    · cases h; exact code52
    · cases h; exact code53
    · cases h; exact code54
    · cases h; exact code55
    · cases h; exact code56
    · cases h; exact code57
    · cases h; exact code60
    · cases h; exact code61
    · cases h; exact code62
    · cases h; exact code63
    · cases h; exact code64
    · cases h; exact code65
    · cases h; exact code66
    · cases h; exact code67
    · cases h; exact code68
    · cases h; exact code69
    · cases h; exact code70
    · cases h; exact code72
    · cases h; exact code73
    · cases h; exact code74
    · cases h; exact code75
    · cases h; exact code76
    · cases h; exact code77
    · cases h; exact code78
    · cases h; exact code79
    · cases h
  prim f p h := by
    simp only [AP] at h
    split at h
    · rename_i hb
      have := Nat.eq_of_beq_eq_true hb
      subst this
      cases h
      exact ins51
    · cases h

end Go.Eng.Recv

/- ReceiverFollows, proved. -/
namespace Go.Proofs.Ytiomljbaolopiaa
open Go Go.Eng Go.RowKit Go.ChangeShapes Go.WideShapes Go.ChangeAt

theorem ownF : ownKnob Try.prog.godebug = none := by kernel_rfl
theorem laidOutF : laidOutB Try.prog = true := by kernel_rfl

set_option maxRecDepth 100000 in
theorem receiverFollows_lifted (os : Os) (started : os.Started) (H : Type) (enc : TypeId × Value → H) :
    ReturnsInHanded {} Try.checked os 8 .any (Rows.receiverFollowsSpec.pre6 enc Try.prog Try.f8 Rows.receiverFollowsRow.domain false) (Rows.receiverFollowsSpec.post enc Try.prog Try.f8 false true false false) := by
  refine returnsInHanded_of_change (C := Try.checked) ownF started (by kernel_rfl) Try.func8
    (ChangeSpec.witness6 (enc := enc) (C := Try.checked) false ⟨#[], #[.slice none 0 0, .slice none 0 0, .int .u32 0], []⟩ 8 (by kernel_rfl) (by kernel_rfl) (by kernel_rfl) (by kernel_rfl)) ?_
  intro W base args ds gs before hval0 hW hcnd _
  have hval : ∀ (j : Nat) t v, Try.f8.params[j]? = some t → args[j]? = some v → Value.okWide Try.prog W .any base t v := hval0
  have hW' := hW
  obtain ⟨p, q, hA0, hV, rfl, hfz, hnd⟩ := hW
  have hA : DataW.TrodAll enc Try.prog W 0 (fun _ => true) true Try.f8.params.toList args.toList ds p := hA0
  rw [Try.params8] at hA hval
  obtain ⟨v0, v1, v2, d0, d1, d2, p0, p1, p2, hargs, rfl, rfl, h0, h1, h2⟩ := trodAll_three hA
  obtain ⟨rfl, rfl⟩ := trodVars_none hV
  obtain ⟨ps, hr0, _, _⟩ := open_strs_rep Try.underlying41 Try.underlying9 (by kernel_rfl) (hval 0 41 v0 rfl (by rw [hargs]; rfl)) h0
  obtain ⟨zs, hr1, hwf, _⟩ := open_ints_rep (k := .u16) Try.underlying42 Try.underlying30 (by kernel_rfl) (hval 1 42 v1 rfl (by rw [hargs]; rfl)) h1
  obtain ⟨n, rfl, rfl, rfl, wn⟩ := open_int Try.underlying29 (hval 2 29 v2 rfl (by rw [hargs]; rfl)) h2
  subst hargs
  have hz : ∀ p ∈ zs, 0 ≤ p ∧ p < 65536 := fun p hp => by
    have := hwf p hp
    simp [Lit.wf, IntKind.min, IntKind.max, IntKind.signed, IntKind.bits] at this
    omega
  obtain ⟨k, hk⟩ := Recv.follows_ok ps zs n hz
  refine (calls_true Recv.aok Try.func8 ⟨k, hk k (Nat.le_refl _)⟩ (repV_cons hr0 (repV_cons hr1 (repV_cons rfl repV_nil))) (by kernel_rfl) (by kernel_rfl)
    (K := fun W' => Rows.receiverFollowsSpec.post enc Try.prog Try.f8 false true false false W #[v0, v1, .int .u32 n] (.bool true) W') ?_).mono ?_
  · intro W' he
    exact post_true laidOutF (by kernel_rfl) (by kernel_rfl) rfl hW' rfl rfl rfl he
  · rintro e W' ⟨v, rfl, rfl, h⟩
    exact ⟨_, rfl, h⟩

theorem receiverFollows_holds : Rows.ReceiverFollowsSaid :=
  OpenClaim.holds_of_wide 8 Try.f8 rfl rfl rfl rfl rfl rfl rfl ⟨rfl, rfl, rfl, rfl, rfl⟩ rfl rfl rfl rfl rfl (by kernel_rfl) Try.func8 (by kernel_rfl)
    (of_decide_eq_true (by kernel_rfl)) (by unfold Func.isWrapper; first | (rw [if_pos (by decide +kernel)]; kernel_rfl) | (rw [if_neg (by decide +kernel)]; exact ⟨rfl, rfl⟩))
    (fun os started H enc _ => receiverFollows_lifted os started H enc)

#print axioms receiverFollows_holds
end Go.Proofs.Ytiomljbaolopiaa

