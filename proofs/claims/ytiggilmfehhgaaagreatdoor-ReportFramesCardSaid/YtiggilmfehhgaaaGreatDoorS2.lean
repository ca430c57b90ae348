/- The machine's entries do what the program's functions do; no condition. -/
import Derived.Shelf.Strings.OnBuilder
import Derived.Shelf.Strings.Repeat
import Derived.Test.YtiggilmfehhgaaaGreatDoorProg
import Derived.KernelRfl
import Derived.Conc.MuLone
import Derived.Test.YtiggilmfehhgaaaGreatDoorS1
import Derived.Test.YtiggilmfehhgaaaGreatDoorE5
import Derived.Test.YtiggilmfehhgaaaGreatDoorE6
set_option linter.unusedSectionVars false
set_option linter.unusedVariables false
set_option linter.unusedSimpArgs false
set_option linter.unnecessarySimpa false
namespace Go.Proofs
open Go.Shelf
def Tryz.lays156_ren : Go.Shelf.Ren := ⟨fun | 156 => 131 | 165 => 168 | 166 => 158 | 169 => 159 | 240 => 252 | 241 => 267 | 276 => 348 | 277 => 358 | n => n, fun | 31 => 27 | 9 => 9 | 3 => 3 | 4 => 4 | 0 => 0 | 20 => 20 | 72 => 286 | 76 => 289 | 70 => 284 | 37 => 241 | 75 => 288 | 127 => 417 | 164 => 513 | 5 => 5 | 80 => 201 | n => n, fun | n => n⟩
theorem Tryz.lays156 : Go.Proofs.Lays.n156 Tryz.prog Tryz.lays156_ren := {
 mixed := by kernel_rfl
 f156 := Tryz.func131.trans (congrArg some (by kernel_rfl))
 f165 := Tryz.func168.trans (congrArg some (by kernel_rfl))
 f166 := Tryz.func158.trans (congrArg some (by kernel_rfl))
 f169 := Tryz.func159.trans (congrArg some (by kernel_rfl))
 f240 := Tryz.func252.trans (congrArg some (by kernel_rfl))
 f241 := Tryz.func267.trans (congrArg some (by kernel_rfl))
 f276 := Tryz.func348.trans (congrArg some (by kernel_rfl))
 f277 := Tryz.func358.trans (congrArg some (by kernel_rfl))
 t0 := Tryz.underlying0
 a0 := Tryz.isAgg0
 z0 := Tryz.sizeOf0
 v0 := Tryz.zeroValue0
 t3 := Tryz.underlying3
 a3 := Tryz.isAgg3
 z3 := Tryz.sizeOf3
 v3 := Tryz.zeroValue3
 t4 := Tryz.underlying4
 a4 := Tryz.isAgg4
 z4 := Tryz.sizeOf4
 v4 := Tryz.zeroValue4
 t9 := Tryz.underlying9
 a9 := Tryz.isAgg9
 z9 := Tryz.sizeOf9
 v9 := Tryz.zeroValue9
 t20 := Tryz.underlying20
 a20 := Tryz.isAgg20
 z20 := Tryz.sizeOf20
 v20 := Tryz.zeroValue20
 t31 := Tryz.underlying27
 a31 := Tryz.isAgg27
 z31 := Tryz.sizeOf27
 v31 := Tryz.zeroValue27
 t37 := Tryz.underlying241
 a37 := Tryz.isAgg241
 z37 := Tryz.sizeOf241
 v37 := Tryz.zeroValue241
 t70 := Tryz.underlying284
 a70 := Tryz.isAgg284
 z70 := Tryz.sizeOf284
 v70 := Tryz.zeroValue284
 t72 := Tryz.underlying286
 a72 := Tryz.isAgg286
 z72 := Tryz.sizeOf286
 v72 := Tryz.zeroValue286
 t75 := Tryz.underlying288
 a75 := Tryz.isAgg288
 z75 := Tryz.sizeOf288
 v75 := Tryz.zeroValue288
 t76 := Tryz.underlying289
 a76 := Tryz.isAgg289
 z76 := Tryz.sizeOf289
 v76 := Tryz.zeroValue289
 t127 := Tryz.underlying417
 a127 := Tryz.isAgg417
 z127 := Tryz.sizeOf417
 v127 := Tryz.zeroValue417
 t164 := Tryz.underlying513
 a164 := Tryz.isAgg513
 z164 := Tryz.sizeOf513
 v164 := Tryz.zeroValue513 }
theorem Tryz.Builder_Extra_156 : Builder.Extra Tryz.prog Tryz.lays156_ren := {
 sizeBuilder := by kernel_rfl
 liesBuilder := by kernel_rfl
 t5 := Tryz.underlying5
 a5 := Tryz.isAgg5
 z5 := Tryz.sizeOf5
 v5 := Tryz.zeroValue5
 infoByte := by kernel_rfl
 cellsByte := by kernel_rfl
 sizeByte := by kernel_rfl
 neB5 := by decide }
def Tryz.lays105_ren : Go.Shelf.Ren := ⟨fun | 105 => 83 | 212 => 166 | 99 => 167 | 165 => 168 | 166 => 158 | 170 => 169 | 169 => 159 | 263 => 264 | 264 => 265 | 206 => 266 | 240 => 252 | 241 => 267 | 276 => 348 | 277 => 358 | n => n, fun | 9 => 9 | 3 => 3 | 4 => 4 | 20 => 20 | 0 => 0 | 46 => 299 | 109 => 300 | 5 => 5 | 72 => 286 | 76 => 289 | 51 => 51 | 146 => 427 | 53 => 38 | 148 => 373 | 70 => 284 | 37 => 241 | 75 => 288 | 127 => 417 | 164 => 513 | 80 => 201 | n => n, fun | n => n⟩
theorem Tryz.lays105 : Go.Proofs.Lays.n105 Tryz.prog Tryz.lays105_ren := {
 mixed := by kernel_rfl
 f99 := Tryz.func167.trans (congrArg some (by kernel_rfl))
 f105 := Tryz.func83.trans (congrArg some (by kernel_rfl))
 f165 := Tryz.func168.trans (congrArg some (by kernel_rfl))
 f166 := Tryz.func158.trans (congrArg some (by kernel_rfl))
 f169 := Tryz.func159.trans (congrArg some (by kernel_rfl))
 f170 := Tryz.func169.trans (congrArg some (by kernel_rfl))
 f206 := Tryz.func266.trans (congrArg some (by kernel_rfl))
 f212 := Tryz.func166.trans (congrArg some (by kernel_rfl))
 f240 := Tryz.func252.trans (congrArg some (by kernel_rfl))
 f241 := Tryz.func267.trans (congrArg some (by kernel_rfl))
 f263 := Tryz.func264.trans (congrArg some (by kernel_rfl))
 f264 := Tryz.func265.trans (congrArg some (by kernel_rfl))
 f276 := Tryz.func348.trans (congrArg some (by kernel_rfl))
 f277 := Tryz.func358.trans (congrArg some (by kernel_rfl))
 t0 := Tryz.underlying0
 a0 := Tryz.isAgg0
 z0 := Tryz.sizeOf0
 v0 := Tryz.zeroValue0
 t3 := Tryz.underlying3
 a3 := Tryz.isAgg3
 z3 := Tryz.sizeOf3
 v3 := Tryz.zeroValue3
 t4 := Tryz.underlying4
 a4 := Tryz.isAgg4
 z4 := Tryz.sizeOf4
 v4 := Tryz.zeroValue4
 t5 := Tryz.underlying5
 a5 := Tryz.isAgg5
 z5 := Tryz.sizeOf5
 v5 := Tryz.zeroValue5
 t9 := Tryz.underlying9
 a9 := Tryz.isAgg9
 z9 := Tryz.sizeOf9
 v9 := Tryz.zeroValue9
 t20 := Tryz.underlying20
 a20 := Tryz.isAgg20
 z20 := Tryz.sizeOf20
 v20 := Tryz.zeroValue20
 t37 := Tryz.underlying241
 a37 := Tryz.isAgg241
 z37 := Tryz.sizeOf241
 v37 := Tryz.zeroValue241
 t46 := Tryz.underlying299
 a46 := Tryz.isAgg299
 z46 := Tryz.sizeOf299
 v46 := Tryz.zeroValue299
 t51 := Tryz.underlying51
 a51 := Tryz.isAgg51
 z51 := Tryz.sizeOf51
 v51 := Tryz.zeroValue51
 t53 := Tryz.underlying38
 a53 := Tryz.isAgg38
 z53 := Tryz.sizeOf38
 v53 := Tryz.zeroValue38
 t70 := Tryz.underlying284
 a70 := Tryz.isAgg284
 z70 := Tryz.sizeOf284
 v70 := Tryz.zeroValue284
 t72 := Tryz.underlying286
 a72 := Tryz.isAgg286
 z72 := Tryz.sizeOf286
 v72 := Tryz.zeroValue286
 t75 := Tryz.underlying288
 a75 := Tryz.isAgg288
 z75 := Tryz.sizeOf288
 v75 := Tryz.zeroValue288
 t76 := Tryz.underlying289
 a76 := Tryz.isAgg289
 z76 := Tryz.sizeOf289
 v76 := Tryz.zeroValue289
 t109 := Tryz.underlying300
 a109 := Tryz.isAgg300
 z109 := Tryz.sizeOf300
 v109 := Tryz.zeroValue300
 t127 := Tryz.underlying417
 a127 := Tryz.isAgg417
 z127 := Tryz.sizeOf417
 v127 := Tryz.zeroValue417
 t146 := Tryz.underlying427
 a146 := Tryz.isAgg427
 z146 := Tryz.sizeOf427
 v146 := Tryz.zeroValue427
 t148 := Tryz.underlying373
 a148 := Tryz.isAgg373
 z148 := Tryz.sizeOf373
 v148 := Tryz.zeroValue373
 t164 := Tryz.underlying513
 a164 := Tryz.isAgg513
 z164 := Tryz.sizeOf513
 v164 := Tryz.zeroValue513 }
theorem Tryz.Builder_Extra_105 : Builder.Extra Tryz.prog Tryz.lays105_ren := {
 sizeBuilder := by kernel_rfl
 liesBuilder := by kernel_rfl
 t5 := Tryz.underlying5
 a5 := Tryz.isAgg5
 z5 := Tryz.sizeOf5
 v5 := Tryz.zeroValue5
 infoByte := by kernel_rfl
 cellsByte := by kernel_rfl
 sizeByte := by kernel_rfl
 neB5 := by decide }
end Go.Proofs
namespace Go.Proofs
abbrev Tryz.muLink : Go.Conc.Locks.MuLink := { lock := 199, unlock := 185, ilock := 299, iunlock := 286, lockSlow := 397, unlockSlow := 378, disable := 376, enable := 379, acquire := 396, relMerge := 375, cas32 := 395, add32 := 377, tMutex := 333, tIMutex := 331, tPMutex := 444, tPIMutex := 538, tPI32 := 541, tUP := 513, tNoCopy := 329, tU32 := 51 }
theorem Tryz.muLib : Go.Conc.Locks.MuLib Tryz.prog Tryz.muLink :=
 ⟨Tryz.func199, Tryz.func185, Tryz.func299, Tryz.func286, Tryz.func376, Tryz.func379, Tryz.func396, Tryz.func375, Tryz.func395, Tryz.func377, Tryz.underlying331, Tryz.runUnderlying331, Tryz.sizeOf331, Tryz.isAgg331, Tryz.zeroValue331, Tryz.underlying333, Tryz.runUnderlying333, Tryz.sizeOf333, Tryz.isAgg333, Tryz.zeroValue333, Tryz.underlying444, Tryz.runUnderlying444, Tryz.sizeOf444, Tryz.isAgg444, Tryz.zeroValue444, Tryz.underlying538, Tryz.runUnderlying538, Tryz.sizeOf538, Tryz.isAgg538, Tryz.zeroValue538, Tryz.underlying541, Tryz.runUnderlying541, Tryz.sizeOf541, Tryz.isAgg541, Tryz.zeroValue541, Tryz.underlying513, Tryz.runUnderlying513, Tryz.sizeOf513, Tryz.isAgg513, Tryz.zeroValue513, Tryz.underlying329, Tryz.runUnderlying329, Tryz.sizeOf329, Tryz.isAgg329, Tryz.zeroValue329, Tryz.underlying21, Tryz.runUnderlying21, Tryz.sizeOf21, Tryz.isAgg21, Tryz.zeroValue21, (by kernel_rfl)⟩
end Go.Proofs
namespace Go.Eng.Ses
open Go Go.Eng Go.Proofs
set_option maxRecDepth 100000
theorem cc179 : Aat Tryz.prog 179 = some Aku := by kernel_rfl
theorem cc238 : Aat Tryz.prog 238 = some Aej := by kernel_rfl
theorem cc408 : Aat Tryz.prog 408 = some Aek := by kernel_rfl
theorem cc533 : Aat Tryz.prog 533 = some Akw := by kernel_rfl
theorem cc282 : Aat Tryz.prog 282 = some AfC := by kernel_rfl
theorem cc283 : Aat Tryz.prog 283 = some c_aes_New := by kernel_rfl
theorem cc336 : Aat Tryz.prog 336 = some AdF := by kernel_rfl
theorem cc337 : Aat Tryz.prog 337 = some AkF := by kernel_rfl
theorem cc338 : Aat Tryz.prog 338 = some AeP := by kernel_rfl
theorem cc499 : Aat Tryz.prog 499 = some AiB := by kernel_rfl
theorem cc575 : Aat Tryz.prog 575 = some AgV := by kernel_rfl
theorem cc574 : Aat Tryz.prog 574 = some Aky := by kernel_rfl
theorem cc577 : Aat Tryz.prog 577 = some Akx := by kernel_rfl
theorem cc576 : Aat Tryz.prog 576 = some c_r04_Sum := by kernel_rfl
theorem cc370 : Aat Tryz.prog 370 = some AkE := by kernel_rfl
theorem cc371 : Aat Tryz.prog 371 = some c_aes_Box := by kernel_rfl
theorem cc372 : Aat Tryz.prog 372 = some AiE := by kernel_rfl
theorem cc447 : Aat Tryz.prog 447 = some AiC := by kernel_rfl
theorem cc446 : Aat Tryz.prog 446 = some Adg := by kernel_rfl
theorem cc340 : Aat Tryz.prog 340 = some Aiw := by kernel_rfl
theorem cc607 : Aat Tryz.prog 607 = some AgU := by kernel_rfl
theorem cc531 : Aat Tryz.prog 531 = some c_r01_Put := by kernel_rfl
theorem cc608 : Aat Tryz.prog 608 = some AkA := by kernel_rfl
theorem cc481 : Aat Tryz.prog 481 = some AkD := by kernel_rfl
theorem cc374 : Aat Tryz.prog 374 = some Aks := by kernel_rfl
theorem cc482 : Aat Tryz.prog 482 = some AaZ := by kernel_rfl
theorem cc334 : Aat Tryz.prog 334 = some Akp := by kernel_rfl
theorem cc513 : Aat Tryz.prog 513 = some Ael := by kernel_rfl
theorem cc514 : Aat Tryz.prog 514 = some c_aes_add := by kernel_rfl
theorem cc515 : Aat Tryz.prog 515 = some AdG := by kernel_rfl
theorem cc516 : Aat Tryz.prog 516 = some AiD := by kernel_rfl
theorem cc626 : Aat Tryz.prog 626 = some c_r05_Box := by kernel_rfl
theorem cc627 : Aat Tryz.prog 627 = some Aiy := by kernel_rfl
theorem cc628 : Aat Tryz.prog 628 = some c_r05_By := by kernel_rfl
theorem cc629 : Aat Tryz.prog 629 = some c_r03_Pad := by kernel_rfl
theorem cc630 : Aat Tryz.prog 630 = some AiA := by kernel_rfl
theorem cc631 : Aat Tryz.prog 631 = some AkB := by kernel_rfl
theorem cc483 : Aat Tryz.prog 483 = some c_sha_Sum := by kernel_rfl
theorem cc565 : Aat Tryz.prog 565 = some AfD := by kernel_rfl
theorem cc658 : Aat Tryz.prog 658 = some c_r05_Sub := by kernel_rfl
theorem cc659 : Aat Tryz.prog 659 = some Aiz := by kernel_rfl
theorem cc660 : Aat Tryz.prog 660 = some c_r03_K := by kernel_rfl
theorem cc661 : Aat Tryz.prog 661 = some Akz := by kernel_rfl
theorem cc545 : Aat Tryz.prog 545 = some Aiv := by kernel_rfl
theorem cc546 : Aat Tryz.prog 546 = some Akt := by kernel_rfl
theorem cc547 : Aat Tryz.prog 547 = some Aiu := by kernel_rfl
theorem cc548 : Aat Tryz.prog 548 = some Akr := by kernel_rfl
theorem cc594 : Aat Tryz.prog 594 = some All := by kernel_rfl
theorem cc595 : Aat Tryz.prog 595 = some AgS := by kernel_rfl
theorem cc373 : Aat Tryz.prog 373 = some Akq := by kernel_rfl
theorem cc596 : Aat Tryz.prog 596 = some Ait := by kernel_rfl
theorem cc265 : Aat Tryz.prog 265 = some Adf := by kernel_rfl
theorem cc622 : Aat Tryz.prog 622 = some AbP := by kernel_rfl
theorem repeatG_flat (args : List AVal) (r : AVal) (h : AdZ args = some r) : r.flat = true := by
 unfold AdZ at h
 repeat' (split at h)
 all_goals first | (cases h; rfl) | cases h
theorem join_p : Abb Tryz.prog 131 joinG := AhI (join_ok Tryz.lays156 Tryz.Builder_Extra_156 Tryz.func131 (by kernel_rfl) (by kernel_rfl)) joinG_flat
theorem repeat_q : AcA Tryz.prog 83 (Agp AdZ) := repeat_ok Tryz.lays105 Tryz.Builder_Extra_105 Tryz.func83 (by kernel_rfl) (by kernel_rfl)
theorem repeat_p : Abb Tryz.prog 83 AdZ := AhI repeat_q repeatG_flat
theorem aokC : AOk Tryz.prog AP0 where
 fn f af h := by
  simp only [AP0] at h
  split at h
  ·cases h; exact cc179
  ·cases h; exact cc238
  ·cases h; exact cc408
  ·cases h; exact cc533
  ·cases h; exact cc282
  ·cases h; exact cc283
  ·cases h; exact cc336
  ·cases h; exact cc337
  ·cases h; exact cc338
  ·cases h; exact cc499
  ·cases h; exact cc575
  ·cases h; exact cc574
  ·cases h; exact cc577
  ·cases h; exact cc576
  ·cases h; exact cc370
  ·cases h; exact cc371
  ·cases h; exact cc372
  ·cases h; exact cc447
  ·cases h; exact cc446
  ·cases h; exact cc340
  ·cases h; exact cc607
  ·cases h; exact cc531
  ·cases h; exact cc608
  ·cases h; exact cc481
  ·cases h; exact cc374
  ·cases h; exact cc482
  ·cases h; exact cc334
  ·cases h; exact cc513
  ·cases h; exact cc514
  ·cases h; exact cc515
  ·cases h; exact cc516
  ·cases h; exact cc626
  ·cases h; exact cc627
  ·cases h; exact cc628
  ·cases h; exact cc629
  ·cases h; exact cc630
  ·cases h; exact cc631
  ·cases h; exact cc483
  ·cases h; exact cc565
  ·cases h; exact cc658
  ·cases h; exact cc659
  ·cases h; exact cc660
  ·cases h; exact cc661
  ·cases h; exact cc545
  ·cases h; exact cc546
  ·cases h; exact cc547
  ·cases h; exact cc548
  ·cases h; exact cc594
  ·cases h; exact cc595
  ·cases h; exact cc373
  ·cases h; exact cc596
  ·cases h; exact cc265
  ·cases h; exact cc622
  ·cases h
 prim f p h := by cases h
 wr f p h := by cases h
 pure f g h := by
  simp only [AP0] at h
  split at h
  ·cases h; exact repeat_p
  ·cases h; exact join_p
  ·cases h
theorem Aaw {α : Type} {b : Bool} {x y : Option α} {z : α} (h : (bif b then x else y) = some z) : (b = true ∧ x = some z) ∨ (b = false ∧ y = some z) := by cases b <;> simp_all
noncomputable def AP1 : AaB := { fn := fn30, keep := fun _ => false, split := fun _ => false, prim := fun _ => none, slim := true }
theorem aok1 : AOk Tryz.prog AP1 where
 fn f af h := h
 prim f p h := by cases h
 wr f p h := by cases h
 pure f g h := by cases h
def ndB (o : Oper) : Bool := match o.op with
 | .defer _ => false
 | _ => true
theorem Afu {a : Array Oper} (h : a.toList.all ndB = true) (i : Nat) (o : Oper) (ho : a[i]? = some o) (c : Call) : o.op ≠ .defer c := by
 have := List.all_eq_true.1 h o (by simpa using Array.mem_of_getElem? ho)
 intro e
 simp [ndB, e] at this
def laB (o : Oper) : Bool := match o.op with
 | .load _ _ => true
 | .assign _ => true
 | _ => false
theorem la_of {a : Array Oper} (h : a.toList.all laB = true) (i : Nat) (o : Oper) (ho : a[i]? = some o) : (∃ t x, o.op = .load t x) ∨ ∃ x, o.op = .assign x := by
 have := List.all_eq_true.1 h o (by simpa using Array.mem_of_getElem? ho)
 unfold laB at this
 split at this
 ·exact .inl ⟨_, _, by assumption⟩
 ·exact .inr ⟨_, by assumption⟩
 ·cases this
theorem appMapW (g : Nat) : PrimW (AkM g) := by
 intro slot args S e rds h x hx
 unfold AkM at h
 split at h
 ·obtain ⟨blk, rl, hb, h, rfl⟩ := AaR h
  simp only at h
  split at h
  ·obtain ⟨blk2, rl2, hb2, h, rfl⟩ := AaR h
   simp only at h
   split at h
   ·split at h
    ·simp only [RM.run, Option.some.injEq, Prod.mk.injEq] at h
     obtain ⟨rfl, -⟩ := h; simp at hx
    ·split at h
     ·simp only [RM.run, Option.some.injEq, Prod.mk.injEq] at h
      obtain ⟨rfl, -⟩ := h; simp at hx
     ·exact (Aaf h).elim
    ·exact (Aaf h).elim
   ·exact (Aaf h).elim
  ·exact (Aaf h).elim
 ·exact (Aaf h).elim
theorem app624 : AcA Tryz.prog 624 (Ahg (appG 601 6 48)) :=
 primKeep_ok (app_keep (zero := [.int .u16 0, .int .u16 0, .int .u64 0, .int .i64 0, .bool false, .str []]) aok1 Tryz.func601 rfl rfl rfl (by decide) (by kernel_rfl) (by kernel_rfl) (by kernel_rfl) (by kernel_rfl) (by kernel_rfl) (Afu (by kernel_rfl)) (Afu (by kernel_rfl)) (Afu (by kernel_rfl)) (Afu (by kernel_rfl)) (Afu (by kernel_rfl)) (by kernel_rfl) (by kernel_rfl) (Afu (by kernel_rfl)) (Afu (by kernel_rfl)) rfl (by decide) Tryz.func624 rfl rfl rfl (by kernel_rfl) (by kernel_rfl) (by kernel_rfl) (Afu (by kernel_rfl)) (Afu (by kernel_rfl)) (Afu (by kernel_rfl)) (la_of (by kernel_rfl)))
theorem app511 : AcA Tryz.prog 511 (AkM 512) :=
 appMap_ok (zero := [.int .u64 0]) (bytes := 8) aok1 Tryz.func512 (by decide) rfl rfl rfl (by kernel_rfl) (by kernel_rfl) (by kernel_rfl) (by kernel_rfl) (Afu (by kernel_rfl)) (Afu (by kernel_rfl)) (Afu (by kernel_rfl)) (Afu (by kernel_rfl)) (by kernel_rfl) (by kernel_rfl) (Afu (by kernel_rfl)) (Afu (by kernel_rfl)) rfl (by decide) (by decide) Tryz.func511 rfl rfl rfl (by kernel_rfl) (by kernel_rfl) (by kernel_rfl) (Afu (by kernel_rfl)) (Afu (by kernel_rfl)) (Afu (by kernel_rfl)) (la_of (by kernel_rfl))
theorem prim_ok : ∀ n p, prim30 n = some p → AcA Tryz.prog n p ∧ PrimW p := by
 intro n p h
 unfold prim30 at h
 rcases Aaw h with ⟨hb, h⟩ | ⟨_, h⟩
 ·have := Nat.eq_of_beq_eq_true hb; subst this; cases h; exact ⟨frombits_ok Tryz.func542 (by kernel_rfl) (by kernel_rfl) (by kernel_rfl) (by kernel_rfl), AlI _⟩
 rcases Aaw h with ⟨hb, h⟩ | ⟨_, h⟩
 ·have := Nat.eq_of_beq_eq_true hb; subst this; cases h; exact ⟨bits_ok Tryz.func543 (by kernel_rfl) (by kernel_rfl) (by kernel_rfl) (by kernel_rfl), AlI _⟩
 rcases Aaw h with ⟨hb, h⟩ | ⟨_, h⟩
 ·have := Nat.eq_of_beq_eq_true hb; subst this; cases h; exact ⟨unlock_ok Tryz.muLib, AjD _⟩
 rcases Aaw h with ⟨hb, h⟩ | ⟨_, h⟩
 ·have := Nat.eq_of_beq_eq_true hb; subst this; cases h; exact ⟨lock_ok Tryz.muLib, AjD _⟩
 rcases Aaw h with ⟨hb, h⟩ | ⟨_, h⟩
 ·have := Nat.eq_of_beq_eq_true hb; subst this; cases h; exact ⟨repeat_q, AlI _⟩
 rcases Aaw h with ⟨hb, h⟩ | ⟨_, h⟩
 ·have := Nat.eq_of_beq_eq_true hb; subst this; cases h; exact ⟨load64_ok Tryz.func441 (by kernel_rfl) (by kernel_rfl) (by kernel_rfl) (by kernel_rfl), AjD _⟩
 rcases Aaw h with ⟨hb, h⟩ | ⟨_, h⟩
 ·have := Nat.eq_of_beq_eq_true hb; subst this; cases h; exact ⟨cas64_ok Tryz.func465 (by kernel_rfl) (by kernel_rfl) (by kernel_rfl) (by kernel_rfl), AjD _⟩
 rcases Aaw h with ⟨hb, h⟩ | ⟨_, h⟩
 ·have := Nat.eq_of_beq_eq_true hb; subst this; cases h; exact ⟨add64_ok Tryz.func382 (by kernel_rfl) (by kernel_rfl) (by kernel_rfl) (by kernel_rfl), AjD _⟩
 rcases Aaw h with ⟨hb, h⟩ | ⟨_, h⟩
 ·have := Nat.eq_of_beq_eq_true hb; subst this; cases h; exact ⟨app511, appMapW _⟩
 rcases Aaw h with ⟨hb, h⟩ | ⟨_, h⟩
 ·have := Nat.eq_of_beq_eq_true hb; subst this; cases h; exact ⟨noEscape_ok Tryz.func348 (by kernel_rfl) (by kernel_rfl) (by kernel_rfl) (by kernel_rfl), idP_wr⟩
 rcases Aaw h with ⟨hb, h⟩ | ⟨_, h⟩
 ·have := Nat.eq_of_beq_eq_true hb; subst this; cases h; exact ⟨bits_ok Tryz.func646 (by kernel_rfl) (by kernel_rfl) (by kernel_rfl) (by kernel_rfl), AlI _⟩
 rcases Aaw h with ⟨hb, h⟩ | ⟨_, h⟩
 ·have := Nat.eq_of_beq_eq_true hb; subst this; cases h; exact ⟨app624, primKeep_wr _⟩
 cases h
theorem pureC_ok : ∀ n g, pureC n = some g → Abb Tryz.prog n g := by
 intro n g h
 unfold pureC at h
 rcases Aaw h with ⟨hb, h⟩ | ⟨_, h⟩
 ·have := Nat.eq_of_beq_eq_true hb; subst this; cases h; exact Abm aokC newG_ok rfl
 rcases Aaw h with ⟨hb, h⟩ | ⟨_, h⟩
 ·have := Nat.eq_of_beq_eq_true hb; subst this; cases h; exact Abm aokC akeyG_ok rfl
 rcases Aaw h with ⟨hb, h⟩ | ⟨_, h⟩
 ·have := Nat.eq_of_beq_eq_true hb; subst this; cases h; exact Abm aokC hmacG_ok rfl
 rcases Aaw h with ⟨hb, h⟩ | ⟨_, h⟩
 ·have := Nat.eq_of_beq_eq_true hb; subst this; cases h; exact Abm aokC textG_ok rfl
 rcases Aaw h with ⟨hb, h⟩ | ⟨_, h⟩
 ·have := Nat.eq_of_beq_eq_true hb; subst this; cases h; exact Abm aokC sealG_ok rfl
 rcases Aaw h with ⟨hb, h⟩ | ⟨_, h⟩
 ·have := Nat.eq_of_beq_eq_true hb; subst this; cases h; exact join_p
 rcases Aaw h with ⟨hb, h⟩ | ⟨_, h⟩
 ·have := Nat.eq_of_beq_eq_true hb; subst this; cases h; exact Abm aokC openG_ok rfl
 rcases Aaw h with ⟨hb, h⟩ | ⟨_, h⟩
 ·have := Nat.eq_of_beq_eq_true hb; subst this; cases h; exact Abm aokC turnG_ok rfl
 rcases Aaw h with ⟨hb, h⟩ | ⟨_, h⟩
 ·have := Nat.eq_of_beq_eq_true hb; subst this; cases h; exact Abm aokC headG_ok rfl
 rcases Aaw h with ⟨hb, h⟩ | ⟨_, h⟩
 ·have := Nat.eq_of_beq_eq_true hb; subst this; cases h; exact Abm aokC sealRG_ok rfl
 rcases Aaw h with ⟨hb, h⟩ | ⟨_, h⟩
 ·have := Nat.eq_of_beq_eq_true hb; subst this; cases h; exact Abm aokC encG_ok rfl
 rcases Aaw h with ⟨hb, h⟩ | ⟨_, h⟩
 ·have := Nat.eq_of_beq_eq_true hb; subst this; cases h; exact Abm aokC blockG_ok rfl
 rcases Aaw h with ⟨hb, h⟩ | ⟨_, h⟩
 ·have := Nat.eq_of_beq_eq_true hb; subst this; cases h; exact Abm aokC headRG_ok rfl
 cases h
theorem aokX {E : Nat → Option (List AVal → Option AVal)} (hE : ∀ n g, E n = some g → Abb Tryz.prog n g) : AOk Tryz.prog (APx E) where
 fn f af h := h
 prim f p h := (prim_ok f p h).1
 wr f p h := (prim_ok f p h).2
 pure f g h := hE f g h
 dprim f p h := by
  have h : dprim30 f = some p := h
  unfold dprim30 at h
  rcases Aaw h with ⟨hb, h⟩ | ⟨_, h⟩
  ·have := Nat.eq_of_beq_eq_true hb; subst this; cases h; exact unlockD_ok Tryz.muLib
  ·cases h
 dwr f p h := by
  have h : dprim30 f = some p := h
  unfold dprim30 at h
  rcases Aaw h with ⟨hb, h⟩ | ⟨_, h⟩
  ·cases h; exact unlockD_wr
  ·cases h
theorem litG_le {g : List AVal → Option AVal} : ∀ {T : List (List AVal × AVal)}, (∀ p ∈ T, g p.1 = some p.2) → ∀ args r, litG T args = some r → g args = some r
 | [], _, _, _, h => by cases h
 | (a, v) :: T, hT, args, r, h => by
   unfold litG at h
   rcases Aaw h with ⟨hb, h⟩ | ⟨_, h⟩
   ·cases h
    rw [← AdV hb]
    exact hT (a, v) (List.mem_cons_self ..)
   ·exact litG_le (fun p hp => hT p (List.mem_cons_of_mem _ hp)) args r h
theorem pureT_ok {D : Nat → Bool} (hD : ∀ n, D n = true → Abb Tryz.prog n AbR) : ∀ n g, pureT D n = some g → Abb Tryz.prog n g := by
 intro n g h
 unfold pureT at h
 rcases Aaw h with ⟨hb, h⟩ | ⟨_, h⟩
 ·cases h; exact hD n hb
 rcases Aaw h with ⟨hb, h⟩ | ⟨_, h⟩
 ·have := Nat.eq_of_beq_eq_true hb; subst this; cases h
  exact fun args r hr => Abm aokC newG_ok rfl args r (litG_le (fun p hp => by
   rcases List.mem_cons.1 hp with rfl | hp
   ·exact lk1
   ·rcases List.mem_cons.1 hp with rfl | hp
    ·exact lk4
    ·cases hp) args r hr)
 rcases Aaw h with ⟨hb, h⟩ | ⟨_, h⟩
 ·have := Nat.eq_of_beq_eq_true hb; subst this; cases h
  exact fun args r hr => Abm aokC sealRG_ok rfl args r (litG_le (fun p hp => by
   rcases List.mem_cons.1 hp with rfl | hp
   ·exact lk2
   ·cases hp) args r hr)
 rcases Aaw h with ⟨hb, h⟩ | ⟨_, h⟩
 ·have := Nat.eq_of_beq_eq_true hb; subst this; cases h
  exact fun args r hr => Abm aokC openG_ok rfl args r (litG_le (fun p hp => by
   rcases List.mem_cons.1 hp with rfl | hp
   ·exact lk3
   ·cases hp) args r hr)
 exact pureC_ok n g h
theorem aokT {D : Nat → Bool} (hD : ∀ n, D n = true → Abb Tryz.prog n AbR) : AOk Tryz.prog (APt D) := aokX (pureT_ok hD)
theorem Abq {D : Nat → Bool} (hD : ∀ n, D n = true → Abb Tryz.prog n AbR) {f : Nat} (hp : pureT D f = none) (h : AbF (APt D) (exec (APt D) 400) f [] = some (.bool true)) : Abb Tryz.prog f AbR :=
 Abm (aokT hD) (fun args r hr => by
  unfold AbR at hr
  split at hr
  ·cases hr; exact AlT 400 ((AlU hp).trans h)
  ·cases hr) hp
theorem pure30_ok {D : Nat → Bool} (hD : ∀ n, D n = true → Abb Tryz.prog n AbR) : ∀ n g, pure30 D n = some g → Abb Tryz.prog n g := by
 intro n g h
 unfold pure30 at h
 rcases Aaw h with ⟨hb, h⟩ | ⟨_, h⟩
 ·cases h; exact hD n hb
 exact pureC_ok n g h
theorem true_30 {D : Nat → Bool} (hD : ∀ n, D n = true → Abb Tryz.prog n AbR) {f : Nat} (hp : pure30 D f = none) (h : AbF (AP30 D) (exec (AP30 D) 400) f [] = some (.bool true)) : Abb Tryz.prog f AbR :=
 Abm (aokX (pure30_ok hD)) (fun args r hr => by
  unfold AbR at hr
  split at hr
  ·cases hr; exact AlT 400 ((AlU hp).trans h)
  ·cases hr) hp
end Go.Eng.Ses
