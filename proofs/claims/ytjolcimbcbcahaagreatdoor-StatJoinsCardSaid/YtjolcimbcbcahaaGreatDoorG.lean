/- What the row lists is what the machine's tables hold; no condition. -/
import Derived.Test.YtjolcimbcbcahaaGreatDoorS1
import Derived.Test.YtjolcimbcbcahaaGreatDoorE6
import Derived.Test.YtjolcimbcbcahaaGreatDoorRows
import Derived.ProofKit
import Derived.Lay
import Derived.OpenShut
import Derived.Stop.Joined
import Derived.LaidMore
set_option linter.unusedSectionVars false
set_option linter.unusedVariables false
set_option linter.unusedSimpArgs false
set_option linter.unnecessarySimpa false
namespace Go.Proofs.YtjolcimbcbcahaaGreatDoor
open Go Go.Eng Go.Eng.Ses Go.RowKit Go.ChangeShapes Go.WideShapes Go.ChangeAt Go.Lib
theorem e8 : Rows.laid_math_bits_deBruijn32tab = tabData (H := Unit) .u8 z8 := by kernel_rfl
theorem e9 : Rows.laid_math_bits_deBruijn64tab = tabData (H := Unit) .u8 z9 := by kernel_rfl
theorem e1 : Rows.laid_strings_asciiSpace = tabData (H := Unit) .u8 z1 := by kernel_rfl
theorem e5 : Rows.laid_internal_strconv_uint64pow10 = tabData (H := Unit) .u64 z5 := by kernel_rfl
theorem pairF {fs : Array Field} (hu : Tryz.prog.underlying 634 = some (.struct fs)) (i : Nat) (f : Field) (h : fs[i]? = some f) : Tryz.prog.underlying f.type = some (.int .u64) ∧ f.offset = i ∧ Tryz.prog.cellsOf f.type = 1 := by
 obtain rfl := TypeDesc.struct.inj (Option.some.inj (Tryz.underlying634.symm.trans hu))
 match i, h with
 | 0, h => cases h; exact ⟨Tryz.underlying27, rfl, by kernel_rfl⟩
 | 1, h => cases h; exact ⟨Tryz.underlying27, rfl, by kernel_rfl⟩
 | i + 2, h => simp at h
theorem gok {W : World} (h : laidMetH Tryz.prog Rows.statJoinsRow.laid W) : GOk (fun _ => False) W := by
 rw [MakeChecks.laidMetH_plain _ _ _ (by kernel_rfl)] at h
 have r8 := Lib.laidMet.reads h (.head _)
 have r9 := Lib.laidMet.reads h (.tail _ (.head _))
 have r3 := Lib.laidMet.reads h (.tail _ (.tail _ (.head _)))
 have r5 := Lib.laidMet.reads h (.tail _ (.tail _ (.tail _ (.head _))))
 have r1 := Lib.laidMet.reads h (.tail _ (.tail _ (.tail _ (.tail _ (.tail _ (.head _))))))
 have r6 := Lib.laidMet.reads h (.tail _ (.tail _ (.tail _ (.tail _ (.tail _ (.tail _ (.tail _ (.head _))))))))
 rw [e8] at r8
 rw [e9] at r9
 rw [e5] at r5
 rw [e1] at r1
 refine gok_of (l := tabL) rfl ?_
 intro p hp
 rcases List.mem_cons.1 hp with rfl | hp
 ·exact AlR (g := 1) (t := 78) (by kernel_rfl) (by kernel_rfl) Tryz.underlying78 Tryz.underlying5 (by kernel_rfl) (by kernel_rfl) r1
 rcases List.mem_cons.1 hp with rfl | hp
 ·exact tab_bool (g := 3) (t := 4) (by kernel_rfl) (by kernel_rfl) Tryz.underlying4 r3
 rcases List.mem_cons.1 hp with rfl | hp
 ·exact AlR (g := 5) (t := 611) (by kernel_rfl) (by kernel_rfl) Tryz.underlying611 Tryz.underlying27 (by kernel_rfl) (by kernel_rfl) r5
 rcases List.mem_cons.1 hp with rfl | hp
 ·exact BbP (g := 6) (t := 635) (u := 634) (by kernel_rfl) (by kernel_rfl) Tryz.underlying635 Tryz.underlying634 (pairF Tryz.underlying634) rfl (by kernel_rfl) (by kernel_rfl) r6
 rcases List.mem_cons.1 hp with rfl | hp
 ·exact AlR (g := 8) (t := 475) (by kernel_rfl) (by kernel_rfl) Tryz.underlying475 Tryz.underlying5 (by kernel_rfl) (by kernel_rfl) r8
 rcases List.mem_cons.1 hp with rfl | hp
 ·exact AlR (g := 9) (t := 531) (by kernel_rfl) (by kernel_rfl) Tryz.underlying531 Tryz.underlying5 (by kernel_rfl) (by kernel_rfl) r9
 cases hp
end Go.Proofs.YtjolcimbcbcahaaGreatDoor
