/- LineTurns is proved: whatever the input, it answers true and leaves its input as it was; no condition. -/
import Derived.Test.YtiomljbaolopiaaLA
import Derived.Test.YtiomljbaolopiaaRows
import Derived.KernelRfl
import Derived.Test.YtiomljbaolopiaaLC
import Derived.Test.YtiomljbaolopiaaE4
set_option linter.unusedSectionVars false
set_option linter.unusedVariables false
set_option linter.unusedSimpArgs false
set_option linter.unnecessarySimpa false
/- The machine's code is the program's. -/
namespace Go.Eng.Line
open Go Go.Eng Go.Proofs

theorem code3 : compileAt Try.prog 3 = some c3 := by kernel_rfl
theorem code4 : compileAt Try.prog 4 = some c4 := by kernel_rfl
theorem code5 : compileAt Try.prog 5 = some c5 := by kernel_rfl
theorem code6 : compileAt Try.prog 6 = some c6 := by kernel_rfl
theorem code11 : compileAt Try.prog 11 = some c11 := by kernel_rfl
theorem code12 : compileAt Try.prog 12 = some c12 := by kernel_rfl
theorem code13 : compileAt Try.prog 13 = some c13 := by kernel_rfl
theorem code14 : compileAt Try.prog 14 = some c14 := by kernel_rfl
theorem code15 : compileAt Try.prog 15 = some c15 := by kernel_rfl
theorem code16 : compileAt Try.prog 16 = some c16 := by kernel_rfl
theorem code17 : compileAt Try.prog 17 = some c17 := by kernel_rfl
theorem code18 : compileAt Try.prog 18 = some c18 := by kernel_rfl
theorem code19 : compileAt Try.prog 19 = some c19 := by kernel_rfl
theorem code20 : compileAt Try.prog 20 = some c20 := by kernel_rfl
theorem code21 : compileAt Try.prog 21 = some c21 := by kernel_rfl
theorem code22 : compileAt Try.prog 22 = some c22 := by kernel_rfl
theorem code23 : compileAt Try.prog 23 = some c23 := by kernel_rfl
theorem code24 : compileAt Try.prog 24 = some c24 := by kernel_rfl
theorem code25 : compileAt Try.prog 25 = some c25 := by kernel_rfl
theorem code26 : compileAt Try.prog 26 = some c26 := by kernel_rfl
theorem code27 : compileAt Try.prog 27 = some c27 := by kernel_rfl
theorem code28 : compileAt Try.prog 28 = some c28 := by kernel_rfl
theorem code29 : compileAt Try.prog 29 = some c29 := by kernel_rfl
theorem code40 : compileAt Try.prog 40 = some c40 := by kernel_rfl
theorem code41 : compileAt Try.prog 41 = some c41 := by kernel_rfl
theorem code42 : compileAt Try.prog 42 = some c42 := by kernel_rfl
theorem code43 : compileAt Try.prog 43 = some c43 := by kernel_rfl
theorem code44 : compileAt Try.prog 44 = some c44 := by kernel_rfl
theorem code45 : compileAt Try.prog 45 = some c45 := by kernel_rfl
theorem code46 : compileAt Try.prog 46 = some c46 := by kernel_rfl
theorem code53 : compileAt Try.prog 53 = some c53 := by kernel_rfl
theorem code60 : compileAt Try.prog 60 = some c60 := by kernel_rfl
theorem code61 : compileAt Try.prog 61 = some c61 := by kernel_rfl
theorem code62 : compileAt Try.prog 62 = some c62 := by kernel_rfl

theorem aok : AOk Try.prog AP where
  fn f af h := by
    simp only [AP] at h
    unfold fn at h
    split at h
    · cases h; exact code3
    · cases h; exact code4
    · cases h; exact code5
    · cases h; exact code6
    · cases h; exact code11
    · cases h; exact code12
    · cases h; exact code13
    · cases h; exact code14
    · cases h; exact code15
    · cases h; exact code16
    · cases h; exact code17
    · cases h; exact code18
    · cases h; exact code19
    · cases h; exact code20
    · cases h; exact code21
    · cases h; exact code22
    · cases h; exact code23
    · cases h; exact code24
    · cases h; exact code25
    · cases h; exact code26
    · cases h; exact code27
    · cases h; exact code28
    · cases h; exact code29
    · cases h; exact code40
    · cases h; exact code41
    · cases h; exact code42
    · cases h; exact code43
    · cases h; exact code44
    · cases h; exact code45
    · cases h; exact code46
    · cases h; exact code53
    · cases h; exact code60
    · cases h; exact code61
    · cases h; exact code62
    · cases h
  prim f p h := by cases h

end Go.Eng.Line

/- LineTurns, proved. -/
namespace Go.Eng.Line
open Go Go.Eng

def actShp : List Shp := [.int .u8, .int .u32, .int .u16, .int .u32, .int .u16, .str, .int .u64, .int .i64, .int .u64]

theorem act_of5 {r : List AVal} (h : ShpAs actShp r) : ∃ a : Act, r = a.row ∧ (0 ≤ a.do_ ∧ a.do_ < 256) ∧ (0 ≤ a.now ∧ a.now < 18446744073709551616) ∧ (0 ≤ a.x.at_ ∧ a.x.at_ < 18446744073709551616) := by
  simp only [actShp, ShpAs, ShpA] at h
  obtain ⟨_, _, rfl, ⟨n1, rfl, w1⟩, _, _, rfl, ⟨n2, rfl, _⟩, _, _, rfl, ⟨n3, rfl, _⟩, _, _, rfl, ⟨n4, rfl, _⟩, _, _, rfl, ⟨n5, rfl, _⟩, _, _, rfl, ⟨s, rfl, _⟩, _, _, rfl, ⟨n6, rfl, w6⟩, _, _, rfl, ⟨n7, rfl, _⟩, _, _, rfl, ⟨n8, rfl, w8⟩, rfl⟩ := h
  refine ⟨⟨n1, ⟨n2, n3, n4, n5, s, n6⟩, n7, n8⟩, rfl, ?_⟩
  simp [Lit.wf, IntKind.min, IntKind.max, IntKind.signed, IntKind.bits] at w1 w6 w8
  simp only
  omega

theorem acts_of5 : ∀ (rows : List (List AVal)), (∀ r ∈ rows, ShpAs actShp r) → ∃ l : List Act, rows = encA l ∧ ∀ a ∈ l, (0 ≤ a.do_ ∧ a.do_ < 256) ∧ (0 ≤ a.now ∧ a.now < 18446744073709551616) ∧ (0 ≤ a.x.at_ ∧ a.x.at_ < 18446744073709551616)
  | [], _ => ⟨[], rfl, by simp⟩
  | r :: rows, h => by
    obtain ⟨a, rfl, h1⟩ := act_of5 (h r (by simp))
    obtain ⟨l, rfl, h2⟩ := acts_of5 rows (fun r hr => h r (by simp [hr]))
    refine ⟨a :: l, rfl, ?_⟩
    intro b hb
    rcases List.mem_cons.1 hb with rfl | hb
    · exact h1
    · exact h2 b hb

end Go.Eng.Line

namespace Go.Eng
open Go Go.RowKit Go.ChangeShapes Go.WideShapes

theorem open_rows_rep {H : Type} {enc : TypeId × Value → H} {P : Program} {r : Reach} {b0 : Nat} {t el : TypeId} {W : World} {sp : Nat → Bool} {v : Value} {d : DataW H} {ps : List MemPlace} (dd : Nat) (ss : List Shp) (ht : P.underlying t = some (.slice el)) (hs : shapeT P dd t = some [.sl ss])
    (hval : Value.okWide P W r b0 t v) (h : DataW.Trod enc P W 0 sp true t v d ps) : ∃ rows, Rep [] (fun _ => False) W (.imm rows) v ∧ rows.length ≤ maxLen ∧ ∀ r ∈ rows, ShpAs ss r := by
  obtain ⟨a0, len, cap, rfl⟩ := okWide_slice ht hval
  obtain ⟨fuel, hf⟩ := h
  obtain ⟨xs, h1, h2⟩ := opens_t dd fuel t _ _ _ hs hf
  simp only [ShpAs, ShpA] at h2
  obtain ⟨_, _, rfl, ⟨rows, rfl, h3, h4⟩, rfl⟩ := h2
  refine ⟨rows, ?_, h3, h4⟩
  exact h1.2 0 _ _ rfl (by simp [Value.cells])

end Go.Eng

namespace Go.Proofs.Ytiomljbaolopiaa
open Go Go.Eng Go.RowKit Go.ChangeShapes Go.WideShapes Go.ChangeAt

theorem ownT : ownKnob Try.prog.godebug = none := by kernel_rfl
theorem shapeT5 : shapeT Try.prog 6 49 = some [.sl Line.actShp] := by kernel_rfl
theorem laidOutT : laidOutB Try.prog = true := by kernel_rfl

set_option maxRecDepth 100000 in
theorem lineTurns_lifted (os : Os) (started : os.Started) (H : Type) (enc : TypeId × Value → H) :
    ReturnsInHanded {} Try.checked os 5 .any (Rows.lineTurnsSpec.pre6 enc Try.prog Try.f5 Rows.lineTurnsRow.domain false) (Rows.lineTurnsSpec.post enc Try.prog Try.f5 false true false false) := by
  refine returnsInHanded_of_change (C := Try.checked) ownT started (by kernel_rfl) Try.func5
    (ChangeSpec.witness6 (enc := enc) (C := Try.checked) false ⟨#[], #[.slice none 0 0, .int .u64 0], []⟩ 8 (by kernel_rfl) (by kernel_rfl) (by kernel_rfl) (by kernel_rfl)) ?_
  intro W base args ds gs before hval0 hW hcnd _
  have hval : ∀ (j : Nat) t v, Try.f5.params[j]? = some t → args[j]? = some v → Value.okWide Try.prog W .any base t v := hval0
  have hW' := hW
  obtain ⟨p, q, hA0, hV, rfl, hfz, hnd⟩ := hW
  have hA : DataW.TrodAll enc Try.prog W 0 (fun _ => true) true Try.f5.params.toList args.toList ds p := hA0
  rw [Try.params5] at hA hval
  obtain ⟨v0, v1, d0, d1, p0, p1, hargs, rfl, rfl, h0, h1⟩ := trodAll_two hA
  obtain ⟨rfl, rfl⟩ := trodVars_none hV
  obtain ⟨rows, hr0, _, hsh⟩ := open_rows_rep 6 Line.actShp Try.underlying49 shapeT5 (hval 0 49 v0 rfl (by rw [hargs]; rfl)) h0
  obtain ⟨n, rfl, rfl, rfl, wn⟩ := open_int Try.underlying23 (hval 1 23 v1 rfl (by rw [hargs]; rfl)) h1
  subst hargs
  obtain ⟨l, rfl, hl⟩ := Line.acts_of5 rows hsh
  obtain ⟨k, hk⟩ := Line.turns_ok l n hl
  refine (calls_true Line.aok Try.func5 ⟨k, hk k (Nat.le_refl _)⟩ (repV_cons hr0 (repV_cons rfl repV_nil)) (by kernel_rfl) (by kernel_rfl)
    (K := fun W' => Rows.lineTurnsSpec.post enc Try.prog Try.f5 false true false false W #[v0, .int .u64 n] (.bool true) W') ?_).mono ?_
  · intro W' he
    exact post_true laidOutT (by kernel_rfl) (by kernel_rfl) rfl hW' rfl rfl rfl he
  · rintro e W' ⟨v, rfl, rfl, h⟩
    exact ⟨_, rfl, h⟩

theorem lineTurns_holds : Rows.LineTurnsSaid :=
  OpenClaim.holds_of_wide 5 Try.f5 rfl rfl rfl rfl rfl rfl rfl ⟨rfl, rfl, rfl, rfl, rfl⟩ rfl rfl rfl rfl rfl (by kernel_rfl) Try.func5 (by kernel_rfl)
    (of_decide_eq_true (by kernel_rfl)) (by unfold Func.isWrapper; first | (rw [if_pos (by decide +kernel)]; kernel_rfl) | (rw [if_neg (by decide +kernel)]; exact ⟨rfl, rfl⟩))
    (fun os started H enc _ => lineTurns_lifted os started H enc)

#print axioms lineTurns_holds
end Go.Proofs.Ytiomljbaolopiaa

