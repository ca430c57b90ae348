/- The machine over the program: its tables, settings, entries, and known answers of the ciphers; no condition. -/
import Derived.Test.YtiggilmfehhgaaaGreatDoorProg
import Derived.Test.YtiggilmfehhgaaaGreatDoorC4
import Derived.Test.YtiggilmfehhgaaaGreatDoorE5
import Derived.Test.YtiggilmfehhgaaaGreatDoorE6
import Derived.KernelRfl
import GoSem.PinnedTables
set_option linter.unusedSectionVars false
set_option linter.unusedVariables false
set_option linter.unusedSimpArgs false
set_option linter.unnecessarySimpa false
namespace Go.Eng.Ses
open Go Go.Eng Go.Proofs
def u8L (l : List Int) : List AVal := l.map fun z => AVal.int .u8 z
def z1 : List Int := [0, 0, 0, 0, 0, 0, 0, 0, 0, 1, 1, 1, 1, 1] ++ List.replicate 18 0 ++ [1] ++ List.replicate 223 0
def z5 : List Int := [1, 10, 100, 1000, 10000, 100000, 1000000, 10000000, 100000000, 1000000000, 10000000000, 100000000000, 1000000000000, 10000000000000, 100000000000000, 1000000000000000, 10000000000000000, 100000000000000000, 1000000000000000000, 10000000000000000000]
def z8 : List Int := [0, 1, 28, 2, 29, 14, 24, 3, 30, 22, 20, 15, 25, 17, 4, 8, 31, 27, 13, 23, 21, 19, 16, 7, 26, 12, 18, 6, 11, 5, 10, 9]
def z9 : List Int := [0, 1, 56, 2, 57, 49, 28, 3, 61, 58, 42, 50, 38, 29, 17, 4, 62, 47, 59, 36, 45, 43, 51, 22, 53, 39, 33, 30, 24, 18, 12, 5, 63, 55, 48, 27, 60, 41, 37, 16, 46, 35, 44, 21, 52, 32, 23, 11, 54, 26, 40, 15, 34, 20, 31, 10, 25, 14, 19, 9, 13, 8, 7, 6]
noncomputable def tabL : List (Nat × List AVal) := [(11, [.bool true]), (3, z5.map fun z => AVal.int .u64 z), (12, pairL .u64 Go.Pinned.pow10Rows), (5, z8.map fun z => AVal.int .u8 z), (6, z9.map fun z => AVal.int .u8 z)]
theorem tabL_ok : scalT tabL = true := by kernel_rfl
noncomputable instance : Inhabited GlobT := ⟨mkGlob tabL tabL_ok⟩
noncomputable def keep30 (n : Nat) : Bool := Nat.beq n 301 || Nat.beq n 411 || Nat.beq n 418 || Nat.beq n 423 || Nat.beq n 621 || Nat.beq n 618 || Nat.beq n 668
noncomputable def split30 (n : Nat) : Bool := Nat.beq n 301 || Nat.beq n 411 || Nat.beq n 418 || Nat.beq n 423 || Nat.beq n 618 || Nat.beq n 668
noncomputable def share30 (n : Nat) : Bool := Nat.beq n 422 || Nat.beq n 617 || Nat.beq n 18 || Nat.beq n 106 || Nat.beq n 107 || Nat.beq n 96 || Nat.beq n 97 || Nat.beq n 98 || Nat.beq n 99 || Nat.beq n 184 || Nat.beq n 194 || Nat.beq n 287 || Nat.beq n 270 || Nat.beq n 362
noncomputable def prim30 (n : Nat) : Option Prim := bif Nat.beq n 542 then some (Agp Anp) else bif Nat.beq n 543 then some (Agp bitsG) else bif Nat.beq n 185 then some (AjF unlockK) else bif Nat.beq n 199 then some (AjF lockK) else bif Nat.beq n 83 then some (Agp AdZ) else bif Nat.beq n 441 then some (AjF loadK) else bif Nat.beq n 465 then some (AjF casK) else bif Nat.beq n 382 then some (AjF addK) else bif Nat.beq n 511 then some (AkM 512) else bif Nat.beq n 348 then some (idP) else bif Nat.beq n 646 then some (Agp bitsG) else bif Nat.beq n 624 then some (Ahg (appG 601 6 48)) else none
noncomputable def dprim30 (n : Nat) : Option DPrim := bif Nat.beq n 185 then some (Amc) else none
noncomputable def pureC (n : Nat) : Option (List AVal → Option AVal) := bif Nat.beq n 179 then some (newG) else bif Nat.beq n 283 then some (akeyG) else bif Nat.beq n 370 then some (hmacG) else bif Nat.beq n 374 then some (textG) else bif Nat.beq n 238 then some (sealG) else bif Nat.beq n 131 then some (joinG) else bif Nat.beq n 408 then some (openG) else bif Nat.beq n 337 then some (turnG) else bif Nat.beq n 340 then some (headG) else bif Nat.beq n 533 then some (sealRG) else bif Nat.beq n 446 then some (encG) else bif Nat.beq n 447 then some (blockG) else bif Nat.beq n 577 then some (headG) else none
noncomputable def AbR : List AVal → Option AVal
 | [] => some (.bool true)
 | _ => none
noncomputable def litG : List (List AVal × AVal) → List AVal → Option AVal
 | [], _ => none
 | (a, v) :: r, args => bif abeqL a args then some v else litG r args
noncomputable def fn30 (n : Nat) : Option AFunc := Aat Tryz.prog n
noncomputable def APx (E : Nat → Option (List AVal → Option AVal)) : AaB := { fn := fn30, keep := keep30, split := split30, share := share30, prim := prim30, dprim := dprim30, pure := E, slim := true }
noncomputable def pure30 (D : Nat → Bool) (n : Nat) : Option (List AVal → Option AVal) := bif D n then some AbR else pureC n
noncomputable def AP30 (D : Nat → Bool) : AaB := APx (pure30 D)
end Go.Eng.Ses
namespace Go.Eng.Ses
open Go Go.Eng Go.Proofs
def ub (l : List Int) : List AVal := l.map fun z => AVal.int .u8 z
def boxK : List AVal := ([(.bool true), (.bool true)] ++ ub [24, 163, 229, 200, 153, 95, 123, 138, 206, 249, 19, 94, 6, 62, 143, 224, 171, 208, 4, 167, 50, 143, 127, 45, 252, 118, 108, 115, 250, 72, 227, 147, 251, 193, 216, 138, 201, 78, 167, 167, 53, 56, 203, 212, 207, 112, 40, 71, 174, 245, 120, 0, 103, 187, 223, 167, 82, 131, 20, 115, 157, 243, 60, 52, 171, 30, 96, 94, 204, 165, 191, 249, 158, 38, 171, 138, 3, 213, 151, 190, 184, 150, 206, 37, 116, 51, 113, 220, 234, 21, 218, 86, 233, 192, 77, 232, 34, 117, 85, 59, 86, 70, 36, 231, 188, 83, 254, 177, 85, 147, 179, 89, 190, 24, 158, 199, 232, 94, 186, 32, 84, 13, 68, 145, 1, 158, 247, 200, 53, 112, 118, 187, 221, 46, 204, 155, 137, 35, 136, 10, 136, 189, 127, 194, 84, 162, 83, 127, 137, 140, 159, 228, 0, 175, 23, 238, 136, 18, 104, 44, 171, 231, 34, 187, 34, 107, 189, 95, 34, 196, 170, 177, 170, 214, 194, 157, 99, 124, 119, 123, 242, 107, 111, 197, 48, 1, 103, 43, 254, 215, 171, 118, 202, 130, 201, 125, 250, 89, 71, 240, 173, 212, 162, 175, 156, 164, 114, 192, 183, 253, 147, 38, 54, 63, 247, 204, 52, 165, 229, 241, 113, 216, 49, 21, 4, 199, 35, 195, 24, 150, 5, 154, 7, 18, 128, 226, 235, 39, 178, 117, 9, 131, 44, 26, 27, 110, 90, 160, 82, 59, 214, 179, 41, 227, 47, 132, 83, 209, 0, 237, 32, 252, 177, 91, 106, 203, 190, 57, 74, 76, 88, 207, 208, 239, 170, 251, 67, 77, 51, 133, 69, 249, 2, 127, 80, 60, 159, 168, 81, 163, 64, 143, 146, 157, 56, 245, 188, 182, 218, 33, 16, 255, 243, 210, 205, 12, 19, 236, 95, 151, 68, 23, 196, 167, 126, 61, 100, 93, 25, 115, 96, 129, 79, 220, 34, 42, 144, 136, 70, 238, 184, 20, 222, 94, 11, 219, 224, 50, 58, 10, 73, 6, 36, 92, 194, 211, 172, 98, 145, 149, 228, 121, 231, 200, 55, 109, 141, 213, 78, 169, 108, 86, 244, 234, 101, 122, 174, 8, 186, 120, 37, 46, 28, 166, 180, 198, 232, 221, 116, 31, 75, 189, 139, 138, 112, 62, 181, 102, 72, 3, 246, 14, 97, 53, 87, 185, 134, 193, 29, 158, 225, 248, 152, 17, 105, 217, 142, 148, 155, 30, 135, 233, 206, 85, 40, 223, 140, 161, 137, 13, 191, 230, 66, 104, 65, 153, 45, 15, 176, 84, 187, 22] ++ [(.str [48, 209, 79, 189, 185, 87, 251, 143, 4, 52, 225, 138, 187, 230, 224, 171, 57, 43, 11, 236, 122, 39, 204, 28, 205, 117, 136, 181, 132, 239, 230, 149])])
def boxZ : List AVal := ([(.bool true), (.bool true)] ++ ub [57, 121, 59, 208, 121, 86, 200, 64, 169, 41, 175, 52, 169, 101, 127, 135, 117, 171, 44, 3, 12, 253, 228, 67, 165, 212, 75, 119, 12, 177, 52, 240, 191, 179, 160, 253, 179, 78, 68, 190, 22, 154, 15, 201, 26, 43, 59, 57, 74, 81, 178, 95, 249, 31, 246, 225, 239, 133, 249, 40, 245, 174, 194, 17, 166, 116, 48, 185, 95, 107, 198, 88, 176, 238, 63, 112, 69, 64, 253, 97, 191, 32, 223, 215, 224, 75, 25, 143, 80, 165, 38, 255, 21, 229, 219, 158, 70, 153, 212, 142, 166, 210, 205, 1, 246, 119, 235, 254, 227, 146, 48, 96, 73, 157, 4, 159, 239, 79, 201, 158, 25, 56, 34, 96, 250, 170, 18, 0, 101, 84, 103, 178, 138, 27, 174, 44, 147, 35, 140, 76, 105, 137, 158, 76, 217, 95, 78, 75, 83, 68, 224, 103, 192, 103, 108, 43, 169, 238, 242, 103, 199, 214, 203, 152, 148, 146, 43, 255, 84, 245, 71, 212, 253, 27, 181, 179, 99, 124, 119, 123, 242, 107, 111, 197, 48, 1, 103, 43, 254, 215, 171, 118, 202, 130, 201, 125, 250, 89, 71, 240, 173, 212, 162, 175, 156, 164, 114, 192, 183, 253, 147, 38, 54, 63, 247, 204, 52, 165, 229, 241, 113, 216, 49, 21, 4, 199, 35, 195, 24, 150, 5, 154, 7, 18, 128, 226, 235, 39, 178, 117, 9, 131, 44, 26, 27, 110, 90, 160, 82, 59, 214, 179, 41, 227, 47, 132, 83, 209, 0, 237, 32, 252, 177, 91, 106, 203, 190, 57, 74, 76, 88, 207, 208, 239, 170, 251, 67, 77, 51, 133, 69, 249, 2, 127, 80, 60, 159, 168, 81, 163, 64, 143, 146, 157, 56, 245, 188, 182, 218, 33, 16, 255, 243, 210, 205, 12, 19, 236, 95, 151, 68, 23, 196, 167, 126, 61, 100, 93, 25, 115, 96, 129, 79, 220, 34, 42, 144, 136, 70, 238, 184, 20, 222, 94, 11, 219, 224, 50, 58, 10, 73, 6, 36, 92, 194, 211, 172, 98, 145, 149, 228, 121, 231, 200, 55, 109, 141, 213, 78, 169, 108, 86, 244, 234, 101, 122, 174, 8, 186, 120, 37, 46, 28, 166, 180, 198, 232, 221, 116, 31, 75, 189, 139, 138, 112, 62, 181, 102, 72, 3, 246, 14, 97, 53, 87, 185, 134, 193, 29, 158, 225, 248, 152, 17, 105, 217, 142, 148, 155, 30, 135, 233, 206, 85, 40, 223, 140, 161, 137, 13, 191, 230, 66, 104, 65, 153, 45, 15, 176, 84, 187, 22] ++ [(.str [224, 145, 209, 19, 75, 199, 40, 134, 64, 202, 247, 123, 111, 216, 59, 180, 28, 222, 163, 203, 253, 123, 183, 39, 234, 231, 61, 146, 67, 178, 30, 1])])
def la1 : List AVal := [(.str [107, 101, 121])]
def lv1 : AVal := (.tuple [(.agg boxK), (.int .i64 0)])
def la2 : List AVal := [(.str [107, 101, 121]), (.int .u64 5), (.int .u64 0), (.str [0, 0, 255, 255, 0, 0, 0, 0, 0, 0, 0, 0, 128, 0, 0, 0, 0, 0, 0, 0, 0, 0, 0, 0, 0, 0, 0, 0, 0, 1, 0, 0, 0, 0, 0, 0, 0, 0, 0, 0, 0, 0, 0, 0, 0, 0, 108, 115])]
def lv2 : AVal := (.str [113, 55, 137, 76, 72, 38, 216, 100, 128, 242, 19, 139, 211, 195, 49, 191, 157, 146, 73, 139, 80, 51, 45, 72, 114, 140, 104, 208, 216, 201, 24, 35, 132, 157, 198, 95, 199, 139, 255, 50, 124, 175, 31, 75, 232, 165, 126, 165, 180, 253, 254, 45, 211, 37, 99, 248, 203, 93, 7, 93, 234, 250, 72, 169])
def la3 : List AVal := [(.agg boxK), (.int .u64 5), (.int .u64 0), (.str [113, 55, 137, 76, 72, 38, 216, 100, 128, 242, 19, 139, 211, 195, 49, 191, 157, 146, 73, 139, 80, 51, 45, 72, 114, 140, 104, 208, 216, 201, 24, 35, 132, 157, 198, 95, 199, 139, 255, 50, 124, 175, 31, 75, 232, 165, 126, 165, 180, 253, 254, 45, 211, 37, 99, 248, 203, 93, 7, 93, 234, 250, 72, 169])]
def lv3 : AVal := (.tuple [(.str [0, 0, 255, 255, 0, 0, 0, 0, 0, 0, 0, 0, 128, 0, 0, 0, 0, 0, 0, 0, 0, 0, 0, 0, 0, 0, 0, 0, 0, 1, 0, 0, 0, 0, 0, 0, 0, 0, 0, 0, 0, 0, 0, 0, 0, 0, 108, 115]), (.int .i64 0)])
def la4 : List AVal := [(.str [0])]
def lv4 : AVal := (.tuple [(.agg boxZ), (.int .i64 0)])
theorem lk1 : newG la1 = some lv1 := by kernel_rfl
theorem lk4 : newG la4 = some lv4 := by kernel_rfl
theorem lk2 : sealRG la2 = some lv2 := by kernel_rfl
theorem lk3 : openG la3 = some lv3 := by kernel_rfl
noncomputable def pureT (D : Nat → Bool) (n : Nat) : Option (List AVal → Option AVal) :=
 bif D n then some AbR else bif Nat.beq n 179 then some (litG [(la1, lv1), (la4, lv4)]) else bif Nat.beq n 533 then some (litG [(la2, lv2)]) else bif Nat.beq n 408 then some (litG [(la3, lv3)]) else pureC n
noncomputable def APt (D : Nat → Bool) : AaB := APx (pureT D)
end Go.Eng.Ses
