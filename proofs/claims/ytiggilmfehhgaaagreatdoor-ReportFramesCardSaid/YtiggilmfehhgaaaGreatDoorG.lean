/- What the row lists is what the machine's tables hold; no condition. -/
import Derived.Test.YtiggilmfehhgaaaGreatDoorS1
import Derived.Test.YtiggilmfehhgaaaGreatDoorE6
import Derived.Test.YtiggilmfehhgaaaGreatDoorRows
import Derived.ProofKit
import Derived.Lay
import Derived.OpenShut
import Derived.Stop.Joined
import Derived.LaidMore
set_option linter.unusedSectionVars false
set_option linter.unusedVariables false
set_option linter.unusedSimpArgs false
set_option linter.unnecessarySimpa false
namespace Go.Proofs.YtiggilmfehhgaaaGreatDoor
open Go Go.Eng Go.Eng.Ses Go.RowKit Go.ChangeShapes Go.WideShapes Go.ChangeAt Go.Lib
theorem e8 : Rows.laid_math_bits_deBruijn32tab = tabData (H := Unit) .u8 z8 := by kernel_rfl
theorem e9 : Rows.laid_math_bits_deBruijn64tab = tabData (H := Unit) .u8 z9 := by kernel_rfl
theorem e5 : Rows.laid_internal_strconv_uint64pow10 = tabData (H := Unit) .u64 z5 := by kernel_rfl
theorem pairF {fs : Array Field} (hu : Tryz.prog.underlying 823 = some (.struct fs)) (i : Nat) (f : Field) (h : fs[i]? = some f) : Tryz.prog.underlying f.type = some (.int .u64) ∧ f.offset = i ∧ Tryz.prog.cellsOf f.type = 1 := by
 obtain rfl := TypeDesc.struct.inj (Option.some.inj (Tryz.underlying823.symm.trans hu))
 match i, h with
 | 0, h => cases h; exact ⟨Tryz.underlying38, rfl, by kernel_rfl⟩
 | 1, h => cases h; exact ⟨Tryz.underlying38, rfl, by kernel_rfl⟩
 | i + 2, h => simp at h
theorem gok {W : World} (h : laidMetH Tryz.prog Rows.reportFramesRow.laid W) : GOk (fun _ => False) W := by
 rw [MakeChecks.laidMetH_plain _ _ _ (by kernel_rfl)] at h
 have r5 := Lib.laidMet.reads h (.head _)
 have r6 := Lib.laidMet.reads h (.tail _ (.head _))
 have r11 := Lib.laidMet.reads h (.tail _ (.tail _ (.head _)))
 have r3 := Lib.laidMet.reads h (.tail _ (.tail _ (.tail _ (.head _))))
 have r12 := Lib.laidMet.reads h (.tail _ (.tail _ (.tail _ (.tail _ (.tail _ (.head _))))))
 rw [e8] at r5
 rw [e9] at r6
 rw [e5] at r3
 refine gok_of (l := tabL) rfl ?_
 intro p hp
 rcases List.mem_cons.1 hp with rfl | hp
 ·exact tab_bool (g := 11) (t := 4) (by kernel_rfl) (by kernel_rfl) Tryz.underlying4 r11
 rcases List.mem_cons.1 hp with rfl | hp
 ·exact tab_ints (g := 3) (t := 664) (by kernel_rfl) (by kernel_rfl) Tryz.underlying664 Tryz.underlying38 (by kernel_rfl) (by kernel_rfl) r3
 rcases List.mem_cons.1 hp with rfl | hp
 ·exact tab_pairs (g := 12) (t := 824) (u := 823) (by kernel_rfl) (by kernel_rfl) Tryz.underlying824 Tryz.underlying823 (pairF Tryz.underlying823) rfl (by kernel_rfl) (by kernel_rfl) r12
 rcases List.mem_cons.1 hp with rfl | hp
 ·exact tab_ints (g := 5) (t := 643) (by kernel_rfl) (by kernel_rfl) Tryz.underlying643 Tryz.underlying5 (by kernel_rfl) (by kernel_rfl) r5
 rcases List.mem_cons.1 hp with rfl | hp
 ·exact tab_ints (g := 6) (t := 691) (by kernel_rfl) (by kernel_rfl) Tryz.underlying691 Tryz.underlying5 (by kernel_rfl) (by kernel_rfl) r6
 cases hp
end Go.Proofs.YtiggilmfehhgaaaGreatDoor
