/- The machine's entries do what the program's functions do; no condition. -/
import Derived.Shelf.Strings.OnBuilder
import Derived.Shelf.Strings.Repeat
import Derived.Test.YtjolcimbcbcahaaGreatDoorProg
import Derived.KernelRfl
import Derived.Conc.MuLone
import Derived.Test.YtjolcimbcbcahaaGreatDoorS1
import Derived.Test.YtjolcimbcbcahaaGreatDoorE5
import Derived.Test.YtjolcimbcbcahaaGreatDoorE6
set_option linter.unusedSectionVars false
set_option linter.unusedVariables false
set_option linter.unusedSimpArgs false
set_option linter.unnecessarySimpa false
namespace Go.Proofs
open Go.Shelf
def Tryz.lays156_ren : Go.Shelf.Ren := ⟨fun | 156 => 349 | 165 => 267 | 166 => 268 | 169 => 270 | 240 => 354 | 241 => 355 | 276 => 410 | 277 => 411 | n => n, fun | 31 => 145 | 9 => 9 | 3 => 3 | 4 => 4 | 0 => 0 | 20 => 20 | 72 => 386 | 76 => 390 | 70 => 384 | 37 => 307 | 75 => 389 | 127 => 474 | 164 => 399 | 5 => 5 | 80 => 173 | n => n, fun | n => n⟩
theorem Tryz.lays156 : Go.Proofs.Lays.n156 Tryz.prog Tryz.lays156_ren := {
 mixed := by kernel_rfl
 f156 := Tryz.func349.trans (congrArg some (by kernel_rfl))
 f165 := Tryz.func267.trans (congrArg some (by kernel_rfl))
 f166 := Tryz.func268.trans (congrArg some (by kernel_rfl))
 f169 := Tryz.func270.trans (congrArg some (by kernel_rfl))
 f240 := Tryz.func354.trans (congrArg some (by kernel_rfl))
 f241 := Tryz.func355.trans (congrArg some (by kernel_rfl))
 f276 := Tryz.func410.trans (congrArg some (by kernel_rfl))
 f277 := Tryz.func411.trans (congrArg some (by kernel_rfl))
 t0 := Tryz.underlying0
 a0 := Tryz.isAgg0
 z0 := Tryz.sizeOf0
 v0 := Tryz.zeroValue0
 t3 := Tryz.underlying3
 a3 := Tryz.isAgg3
 z3 := Tryz.sizeOf3
 v3 := Tryz.zeroValue3
 t4 := Tryz.underlying4
 a4 := Tryz.isAgg4
 z4 := Tryz.sizeOf4
 v4 := Tryz.zeroValue4
 t9 := Tryz.underlying9
 a9 := Tryz.isAgg9
 z9 := Tryz.sizeOf9
 v9 := Tryz.zeroValue9
 t20 := Tryz.underlying20
 a20 := Tryz.isAgg20
 z20 := Tryz.sizeOf20
 v20 := Tryz.zeroValue20
 t31 := Tryz.underlying145
 a31 := Tryz.isAgg145
 z31 := Tryz.sizeOf145
 v31 := Tryz.zeroValue145
 t37 := Tryz.underlying307
 a37 := Tryz.isAgg307
 z37 := Tryz.sizeOf307
 v37 := Tryz.zeroValue307
 t70 := Tryz.underlying384
 a70 := Tryz.isAgg384
 z70 := Tryz.sizeOf384
 v70 := Tryz.zeroValue384
 t72 := Tryz.underlying386
 a72 := Tryz.isAgg386
 z72 := Tryz.sizeOf386
 v72 := Tryz.zeroValue386
 t75 := Tryz.underlying389
 a75 := Tryz.isAgg389
 z75 := Tryz.sizeOf389
 v75 := Tryz.zeroValue389
 t76 := Tryz.underlying390
 a76 := Tryz.isAgg390
 z76 := Tryz.sizeOf390
 v76 := Tryz.zeroValue390
 t127 := Tryz.underlying474
 a127 := Tryz.isAgg474
 z127 := Tryz.sizeOf474
 v127 := Tryz.zeroValue474
 t164 := Tryz.underlying399
 a164 := Tryz.isAgg399
 z164 := Tryz.sizeOf399
 v164 := Tryz.zeroValue399 }
theorem Tryz.Builder_Extra_156 : Builder.Extra Tryz.prog Tryz.lays156_ren := {
 sizeBuilder := by kernel_rfl
 liesBuilder := by kernel_rfl
 t5 := Tryz.underlying5
 a5 := Tryz.isAgg5
 z5 := Tryz.sizeOf5
 v5 := Tryz.zeroValue5
 infoByte := by kernel_rfl
 cellsByte := by kernel_rfl
 sizeByte := by kernel_rfl
 neB5 := by decide }
def Tryz.lays105_ren : Go.Shelf.Ren := ⟨fun | 105 => 218 | 212 => 265 | 99 => 266 | 165 => 267 | 166 => 268 | 170 => 269 | 169 => 270 | 263 => 351 | 264 => 352 | 206 => 353 | 240 => 354 | 241 => 355 | 276 => 410 | 277 => 411 | n => n, fun | 9 => 9 | 3 => 3 | 4 => 4 | 20 => 20 | 0 => 0 | 46 => 352 | 109 => 381 | 5 => 5 | 72 => 386 | 76 => 390 | 51 => 59 | 146 => 470 | 53 => 27 | 148 => 472 | 70 => 384 | 37 => 307 | 75 => 389 | 127 => 474 | 164 => 399 | 80 => 173 | n => n, fun | n => n⟩
theorem Tryz.lays105 : Go.Proofs.Lays.n105 Tryz.prog Tryz.lays105_ren := {
 mixed := by kernel_rfl
 f99 := Tryz.func266.trans (congrArg some (by kernel_rfl))
 f105 := Tryz.func218.trans (congrArg some (by kernel_rfl))
 f165 := Tryz.func267.trans (congrArg some (by kernel_rfl))
 f166 := Tryz.func268.trans (congrArg some (by kernel_rfl))
 f169 := Tryz.func270.trans (congrArg some (by kernel_rfl))
 f170 := Tryz.func269.trans (congrArg some (by kernel_rfl))
 f206 := Tryz.func353.trans (congrArg some (by kernel_rfl))
 f212 := Tryz.func265.trans (congrArg some (by kernel_rfl))
 f240 := Tryz.func354.trans (congrArg some (by kernel_rfl))
 f241 := Tryz.func355.trans (congrArg some (by kernel_rfl))
 f263 := Tryz.func351.trans (congrArg some (by kernel_rfl))
 f264 := Tryz.func352.trans (congrArg some (by kernel_rfl))
 f276 := Tryz.func410.trans (congrArg some (by kernel_rfl))
 f277 := Tryz.func411.trans (congrArg some (by kernel_rfl))
 t0 := Tryz.underlying0
 a0 := Tryz.isAgg0
 z0 := Tryz.sizeOf0
 v0 := Tryz.zeroValue0
 t3 := Tryz.underlying3
 a3 := Tryz.isAgg3
 z3 := Tryz.sizeOf3
 v3 := Tryz.zeroValue3
 t4 := Tryz.underlying4
 a4 := Tryz.isAgg4
 z4 := Tryz.sizeOf4
 v4 := Tryz.zeroValue4
 t5 := Tryz.underlying5
 a5 := Tryz.isAgg5
 z5 := Tryz.sizeOf5
 v5 := Tryz.zeroValue5
 t9 := Tryz.underlying9
 a9 := Tryz.isAgg9
 z9 := Tryz.sizeOf9
 v9 := Tryz.zeroValue9
 t20 := Tryz.underlying20
 a20 := Tryz.isAgg20
 z20 := Tryz.sizeOf20
 v20 := Tryz.zeroValue20
 t37 := Tryz.underlying307
 a37 := Tryz.isAgg307
 z37 := Tryz.sizeOf307
 v37 := Tryz.zeroValue307
 t46 := Tryz.underlying352
 a46 := Tryz.isAgg352
 z46 := Tryz.sizeOf352
 v46 := Tryz.zeroValue352
 t51 := Tryz.underlying59
 a51 := Tryz.isAgg59
 z51 := Tryz.sizeOf59
 v51 := Tryz.zeroValue59
 t53 := Tryz.underlying27
 a53 := Tryz.isAgg27
 z53 := Tryz.sizeOf27
 v53 := Tryz.zeroValue27
 t70 := Tryz.underlying384
 a70 := Tryz.isAgg384
 z70 := Tryz.sizeOf384
 v70 := Tryz.zeroValue384
 t72 := Tryz.underlying386
 a72 := Tryz.isAgg386
 z72 := Tryz.sizeOf386
 v72 := Tryz.zeroValue386
 t75 := Tryz.underlying389
 a75 := Tryz.isAgg389
 z75 := Tryz.sizeOf389
 v75 := Tryz.zeroValue389
 t76 := Tryz.underlying390
 a76 := Tryz.isAgg390
 z76 := Tryz.sizeOf390
 v76 := Tryz.zeroValue390
 t109 := Tryz.underlying381
 a109 := Tryz.isAgg381
 z109 := Tryz.sizeOf381
 v109 := Tryz.zeroValue381
 t127 := Tryz.underlying474
 a127 := Tryz.isAgg474
 z127 := Tryz.sizeOf474
 v127 := Tryz.zeroValue474
 t146 := Tryz.underlying470
 a146 := Tryz.isAgg470
 z146 := Tryz.sizeOf470
 v146 := Tryz.zeroValue470
 t148 := Tryz.underlying472
 a148 := Tryz.isAgg472
 z148 := Tryz.sizeOf472
 v148 := Tryz.zeroValue472
 t164 := Tryz.underlying399
 a164 := Tryz.isAgg399
 z164 := Tryz.sizeOf399
 v164 := Tryz.zeroValue399 }
theorem Tryz.Builder_Extra_105 : Builder.Extra Tryz.prog Tryz.lays105_ren := {
 sizeBuilder := by kernel_rfl
 liesBuilder := by kernel_rfl
 t5 := Tryz.underlying5
 a5 := Tryz.isAgg5
 z5 := Tryz.sizeOf5
 v5 := Tryz.zeroValue5
 infoByte := by kernel_rfl
 cellsByte := by kernel_rfl
 sizeByte := by kernel_rfl
 neB5 := by decide }
end Go.Proofs
namespace Go.Proofs
abbrev Tryz.muLink : Go.Conc.Locks.MuLink := { lock := 199, unlock := 166, ilock := 249, iunlock := 223, lockSlow := 332, unlockSlow := 282, disable := 280, enable := 283, acquire := 331, relMerge := 279, cas32 := 330, add32 := 281, tMutex := 254, tIMutex := 252, tPMutex := 334, tPIMutex := 397, tPI32 := 401, tUP := 399, tNoCopy := 250, tU32 := 59 }
theorem Tryz.muLib : Go.Conc.Locks.MuLib Tryz.prog Tryz.muLink :=
 ⟨Tryz.func199, Tryz.func166, Tryz.func249, Tryz.func223, Tryz.func280, Tryz.func283, Tryz.func331, Tryz.func279, Tryz.func330, Tryz.func281, Tryz.underlying252, Tryz.runUnderlying252, Tryz.sizeOf252, Tryz.isAgg252, Tryz.zeroValue252, Tryz.underlying254, Tryz.runUnderlying254, Tryz.sizeOf254, Tryz.isAgg254, Tryz.zeroValue254, Tryz.underlying334, Tryz.runUnderlying334, Tryz.sizeOf334, Tryz.isAgg334, Tryz.zeroValue334, Tryz.underlying397, Tryz.runUnderlying397, Tryz.sizeOf397, Tryz.isAgg397, Tryz.zeroValue397, Tryz.underlying401, Tryz.runUnderlying401, Tryz.sizeOf401, Tryz.isAgg401, Tryz.zeroValue401, Tryz.underlying399, Tryz.runUnderlying399, Tryz.sizeOf399, Tryz.isAgg399, Tryz.zeroValue399, Tryz.underlying250, Tryz.runUnderlying250, Tryz.sizeOf250, Tryz.isAgg250, Tryz.zeroValue250, Tryz.underlying21, Tryz.runUnderlying21, Tryz.sizeOf21, Tryz.isAgg21, Tryz.zeroValue21, (by kernel_rfl)⟩
end Go.Proofs
namespace Go.Eng.Ses
open Go Go.Eng Go.Proofs
set_option maxRecDepth 100000
theorem cc159 : Aap Tryz.prog 159 = some AkU := by kernel_rfl
theorem cc303 : Aap Tryz.prog 303 = some Aew := by kernel_rfl
theorem cc359 : Aap Tryz.prog 359 = some Aex := by kernel_rfl
theorem cc402 : Aap Tryz.prog 402 = some AkW := by kernel_rfl
theorem cc216 : Aap Tryz.prog 216 = some AfX := by kernel_rfl
theorem cc217 : Aap Tryz.prog 217 = some Aof := by kernel_rfl
theorem cc379 : Aap Tryz.prog 379 = some AdR := by kernel_rfl
theorem cc380 : Aap Tryz.prog 380 = some Ale := by kernel_rfl
theorem cc381 : Aap Tryz.prog 381 = some Afe := by kernel_rfl
theorem cc416 : Aap Tryz.prog 416 = some AiE := by kernel_rfl
theorem cc442 : Aap Tryz.prog 442 = some Aha := by kernel_rfl
theorem cc441 : Aap Tryz.prog 441 = some AkY := by kernel_rfl
theorem cc444 : Aap Tryz.prog 444 = some AkX := by kernel_rfl
theorem cc443 : Aap Tryz.prog 443 = some Aob := by kernel_rfl
theorem cc262 : Aap Tryz.prog 262 = some Ald := by kernel_rfl
theorem cc263 : Aap Tryz.prog 263 = some Aog := by kernel_rfl
theorem cc264 : Aap Tryz.prog 264 = some AiH := by kernel_rfl
theorem cc424 : Aap Tryz.prog 424 = some AiF := by kernel_rfl
theorem cc423 : Aap Tryz.prog 423 = some Ado := by kernel_rfl
theorem cc382 : Aap Tryz.prog 382 = some Aiy := by kernel_rfl
theorem cc496 : Aap Tryz.prog 496 = some AgZ := by kernel_rfl
theorem cc400 : Aap Tryz.prog 400 = some Aod := by kernel_rfl
theorem cc497 : Aap Tryz.prog 497 = some Ala := by kernel_rfl
theorem cc348 : Aap Tryz.prog 348 = some Alc := by kernel_rfl
theorem cc277 : Aap Tryz.prog 277 = some AkS := by kernel_rfl
theorem cc350 : Aap Tryz.prog 350 = some AaZ := by kernel_rfl
theorem cc278 : Aap Tryz.prog 278 = some AkO := by kernel_rfl
theorem cc471 : Aap Tryz.prog 471 = some Aez := by kernel_rfl
theorem cc472 : Aap Tryz.prog 472 = some Aoe := by kernel_rfl
theorem cc473 : Aap Tryz.prog 473 = some AdT := by kernel_rfl
theorem cc474 : Aap Tryz.prog 474 = some AiG := by kernel_rfl
theorem cc521 : Aap Tryz.prog 521 = some Aoa := by kernel_rfl
theorem cc522 : Aap Tryz.prog 522 = some AiA := by kernel_rfl
theorem cc523 : Aap Tryz.prog 523 = some Asv := by kernel_rfl
theorem cc524 : Aap Tryz.prog 524 = some Aoc := by kernel_rfl
theorem cc525 : Aap Tryz.prog 525 = some AiC := by kernel_rfl
theorem cc526 : Aap Tryz.prog 526 = some Alb := by kernel_rfl
theorem cc356 : Aap Tryz.prog 356 = some AnX := by kernel_rfl
theorem cc515 : Aap Tryz.prog 515 = some AfY := by kernel_rfl
theorem cc544 : Aap Tryz.prog 544 = some AnZ := by kernel_rfl
theorem cc545 : Aap Tryz.prog 545 = some AiB := by kernel_rfl
theorem cc546 : Aap Tryz.prog 546 = some AxY := by kernel_rfl
theorem cc547 : Aap Tryz.prog 547 = some AkZ := by kernel_rfl
theorem cc412 : Aap Tryz.prog 412 = some Aix := by kernel_rfl
theorem cc413 : Aap Tryz.prog 413 = some AkT := by kernel_rfl
theorem cc414 : Aap Tryz.prog 414 = some Aiw := by kernel_rfl
theorem cc415 : Aap Tryz.prog 415 = some AkR := by kernel_rfl
theorem cc457 : Aap Tryz.prog 457 = some AlH := by kernel_rfl
theorem cc458 : Aap Tryz.prog 458 = some AgY := by kernel_rfl
theorem cc192 : Aap Tryz.prog 192 = some AkP := by kernel_rfl
theorem cc459 : Aap Tryz.prog 459 = some Aiv := by kernel_rfl
theorem cc352 : Aap Tryz.prog 352 = some Adm := by kernel_rfl
theorem cc508 : Aap Tryz.prog 508 = some AbW := by kernel_rfl
theorem Atp (args : List AVal) (r : AVal) (h : AfG args = some r) : r.flat = true := by
 unfold AfG at h
 repeat' (split at h)
 all_goals first | (cases h; rfl) | cases h
theorem join_p : Aba Tryz.prog 349 Ard := Ads (join_ok Tryz.lays156 Tryz.Builder_Extra_156 Tryz.func349 (by kernel_rfl) (by kernel_rfl)) BaD
theorem AyG : AcE Tryz.prog 218 (AgC AfG) := Bcp Tryz.lays105 Tryz.Builder_Extra_105 Tryz.func218 (by kernel_rfl) (by kernel_rfl)
theorem repeat_p : Aba Tryz.prog 218 AfG := Ads AyG Atp
theorem aokC : AOk Tryz.prog AP0 where
 fn f af h := by
  simp only [AP0] at h
  split at h
  ·cases h; exact cc159
  ·cases h; exact cc303
  ·cases h; exact cc359
  ·cases h; exact cc402
  ·cases h; exact cc216
  ·cases h; exact cc217
  ·cases h; exact cc379
  ·cases h; exact cc380
  ·cases h; exact cc381
  ·cases h; exact cc416
  ·cases h; exact cc442
  ·cases h; exact cc441
  ·cases h; exact cc444
  ·cases h; exact cc443
  ·cases h; exact cc262
  ·cases h; exact cc263
  ·cases h; exact cc264
  ·cases h; exact cc424
  ·cases h; exact cc423
  ·cases h; exact cc382
  ·cases h; exact cc496
  ·cases h; exact cc400
  ·cases h; exact cc497
  ·cases h; exact cc348
  ·cases h; exact cc277
  ·cases h; exact cc350
  ·cases h; exact cc278
  ·cases h; exact cc471
  ·cases h; exact cc472
  ·cases h; exact cc473
  ·cases h; exact cc474
  ·cases h; exact cc521
  ·cases h; exact cc522
  ·cases h; exact cc523
  ·cases h; exact cc524
  ·cases h; exact cc525
  ·cases h; exact cc526
  ·cases h; exact cc356
  ·cases h; exact cc515
  ·cases h; exact cc544
  ·cases h; exact cc545
  ·cases h; exact cc546
  ·cases h; exact cc547
  ·cases h; exact cc412
  ·cases h; exact cc413
  ·cases h; exact cc414
  ·cases h; exact cc415
  ·cases h; exact cc457
  ·cases h; exact cc458
  ·cases h; exact cc192
  ·cases h; exact cc459
  ·cases h; exact cc352
  ·cases h; exact cc508
  ·cases h
 prim f p h := by cases h
 wr f p h := by cases h
 pure f g h := by
  simp only [AP0] at h
  split at h
  ·cases h; exact repeat_p
  ·cases h; exact join_p
  ·cases h
theorem Aau {α : Type} {b : Bool} {x y : Option α} {z : α} (h : (bif b then x else y) = some z) : (b = true ∧ x = some z) ∨ (b = false ∧ y = some z) := by cases b <;> simp_all
noncomputable def AP1 : AaF := { fn := fn30, keep := fun _ => false, split := fun _ => false, prim := fun _ => none, slim := true }
theorem aok1 : AOk Tryz.prog AP1 where
 fn f af h := h
 prim f p h := by cases h
 wr f p h := by cases h
 pure f g h := by cases h
def ndB (o : Oper) : Bool := match o.op with
 | .defer _ => false
 | _ => true
theorem AfL {a : Array Oper} (h : a.toList.all ndB = true) (i : Nat) (o : Oper) (ho : a[i]? = some o) (c : Call) : o.op ≠ .defer c := by
 have := List.all_eq_true.1 h o (by simpa using Array.mem_of_getElem? ho)
 intro e
 simp [ndB, e] at this
def laB (o : Oper) : Bool := match o.op with
 | .load _ _ => true
 | .assign _ => true
 | _ => false
theorem la_of {a : Array Oper} (h : a.toList.all laB = true) (i : Nat) (o : Oper) (ho : a[i]? = some o) : (∃ t x, o.op = .load t x) ∨ ∃ x, o.op = .assign x := by
 have := List.all_eq_true.1 h o (by simpa using Array.mem_of_getElem? ho)
 unfold laB at this
 split at this
 ·exact .inl ⟨_, _, by assumption⟩
 ·exact .inr ⟨_, by assumption⟩
 ·cases this
theorem appMapW (g : Nat) : Ayi (All g) := by
 intro slot args S e rds h x hx
 unfold All at h
 split at h
 ·obtain ⟨blk, rl, hb, h, rfl⟩ := AaT h
  simp only at h
  split at h
  ·obtain ⟨blk2, rl2, hb2, h, rfl⟩ := AaT h
   simp only at h
   split at h
   ·split at h
    ·simp only [RM.run, Option.some.injEq, Prod.mk.injEq] at h
     obtain ⟨rfl, -⟩ := h; simp at hx
    ·split at h
     ·simp only [RM.run, Option.some.injEq, Prod.mk.injEq] at h
      obtain ⟨rfl, -⟩ := h; simp at hx
     ·exact (Aag h).elim
    ·exact (Aag h).elim
   ·exact (Aag h).elim
  ·exact (Aag h).elim
 ·exact (Aag h).elim
theorem app541 : AcE Tryz.prog 541 (Ahk (appG 513 6 48)) :=
 AvY (app_keep (zero := [.int .u16 0, .int .u16 0, .int .u64 0, .int .i64 0, .bool false, .str []]) aok1 Tryz.func513 rfl rfl rfl (by decide) (by kernel_rfl) (by kernel_rfl) (by kernel_rfl) (by kernel_rfl) (by kernel_rfl) (AfL (by kernel_rfl)) (AfL (by kernel_rfl)) (AfL (by kernel_rfl)) (AfL (by kernel_rfl)) (AfL (by kernel_rfl)) (by kernel_rfl) (by kernel_rfl) (AfL (by kernel_rfl)) (AfL (by kernel_rfl)) rfl (by decide) Tryz.func541 rfl rfl rfl (by kernel_rfl) (by kernel_rfl) (by kernel_rfl) (AfL (by kernel_rfl)) (AfL (by kernel_rfl)) (AfL (by kernel_rfl)) (la_of (by kernel_rfl)))
theorem app306 : AcE Tryz.prog 306 (All 307) :=
 appMap_ok (zero := [.int .u64 0]) (bytes := 8) aok1 Tryz.func307 (by decide) rfl rfl rfl (by kernel_rfl) (by kernel_rfl) (by kernel_rfl) (by kernel_rfl) (AfL (by kernel_rfl)) (AfL (by kernel_rfl)) (AfL (by kernel_rfl)) (AfL (by kernel_rfl)) (by kernel_rfl) (by kernel_rfl) (AfL (by kernel_rfl)) (AfL (by kernel_rfl)) rfl (by decide) (by decide) Tryz.func306 rfl rfl rfl (by kernel_rfl) (by kernel_rfl) (by kernel_rfl) (AfL (by kernel_rfl)) (AfL (by kernel_rfl)) (AfL (by kernel_rfl)) (la_of (by kernel_rfl))
theorem Bcu : ∀ n p, Bcv n = some p → AcE Tryz.prog n p ∧ Ayi p := by
 intro n p h
 unfold Bcv at h
 rcases Aau h with ⟨hb, h⟩ | ⟨_, h⟩
 ·have := Nat.eq_of_beq_eq_true hb; subst this; cases h; exact ⟨Ank Tryz.func136 (by kernel_rfl) (by kernel_rfl) (by kernel_rfl) (by kernel_rfl), AlY _⟩
 rcases Aau h with ⟨hb, h⟩ | ⟨_, h⟩
 ·have := Nat.eq_of_beq_eq_true hb; subst this; cases h; exact ⟨Ayd Tryz.func137 (by kernel_rfl) (by kernel_rfl) (by kernel_rfl) (by kernel_rfl), AlY _⟩
 rcases Aau h with ⟨hb, h⟩ | ⟨_, h⟩
 ·have := Nat.eq_of_beq_eq_true hb; subst this; cases h; exact ⟨BbC Tryz.muLib, AjS _⟩
 rcases Aau h with ⟨hb, h⟩ | ⟨_, h⟩
 ·have := Nat.eq_of_beq_eq_true hb; subst this; cases h; exact ⟨lock_ok Tryz.muLib, AjS _⟩
 rcases Aau h with ⟨hb, h⟩ | ⟨_, h⟩
 ·have := Nat.eq_of_beq_eq_true hb; subst this; cases h; exact ⟨AyG, AlY _⟩
 rcases Aau h with ⟨hb, h⟩ | ⟨_, h⟩
 ·have := Nat.eq_of_beq_eq_true hb; subst this; cases h; exact ⟨load64_ok Tryz.func246 (by kernel_rfl) (by kernel_rfl) (by kernel_rfl) (by kernel_rfl), AjS _⟩
 rcases Aau h with ⟨hb, h⟩ | ⟨_, h⟩
 ·have := Nat.eq_of_beq_eq_true hb; subst this; cases h; exact ⟨cas64_ok Tryz.func284 (by kernel_rfl) (by kernel_rfl) (by kernel_rfl) (by kernel_rfl), AjS _⟩
 rcases Aau h with ⟨hb, h⟩ | ⟨_, h⟩
 ·have := Nat.eq_of_beq_eq_true hb; subst this; cases h; exact ⟨add64_ok Tryz.func305 (by kernel_rfl) (by kernel_rfl) (by kernel_rfl) (by kernel_rfl), AjS _⟩
 rcases Aau h with ⟨hb, h⟩ | ⟨_, h⟩
 ·have := Nat.eq_of_beq_eq_true hb; subst this; cases h; exact ⟨app306, appMapW _⟩
 rcases Aau h with ⟨hb, h⟩ | ⟨_, h⟩
 ·have := Nat.eq_of_beq_eq_true hb; subst this; cases h; exact ⟨Awr Tryz.func410 (by kernel_rfl) (by kernel_rfl) (by kernel_rfl) (by kernel_rfl), idP_wr⟩
 rcases Aau h with ⟨hb, h⟩ | ⟨_, h⟩
 ·have := Nat.eq_of_beq_eq_true hb; subst this; cases h; exact ⟨Ayd Tryz.func428 (by kernel_rfl) (by kernel_rfl) (by kernel_rfl) (by kernel_rfl), AlY _⟩
 rcases Aau h with ⟨hb, h⟩ | ⟨_, h⟩
 ·have := Nat.eq_of_beq_eq_true hb; subst this; cases h; exact ⟨app541, AvX _⟩
 cases h
theorem AyJ : ∀ n g, pureC n = some g → Aba Tryz.prog n g := by
 intro n g h
 unfold pureC at h
 rcases Aau h with ⟨hb, h⟩ | ⟨_, h⟩
 ·have := Nat.eq_of_beq_eq_true hb; subst this; cases h; exact Abn aokC newG_ok rfl
 rcases Aau h with ⟨hb, h⟩ | ⟨_, h⟩
 ·have := Nat.eq_of_beq_eq_true hb; subst this; cases h; exact Abn aokC akeyG_ok rfl
 rcases Aau h with ⟨hb, h⟩ | ⟨_, h⟩
 ·have := Nat.eq_of_beq_eq_true hb; subst this; cases h; exact Abn aokC hmacG_ok rfl
 rcases Aau h with ⟨hb, h⟩ | ⟨_, h⟩
 ·have := Nat.eq_of_beq_eq_true hb; subst this; cases h; exact Abn aokC textG_ok rfl
 rcases Aau h with ⟨hb, h⟩ | ⟨_, h⟩
 ·have := Nat.eq_of_beq_eq_true hb; subst this; cases h; exact Abn aokC sealG_ok rfl
 rcases Aau h with ⟨hb, h⟩ | ⟨_, h⟩
 ·have := Nat.eq_of_beq_eq_true hb; subst this; cases h; exact join_p
 rcases Aau h with ⟨hb, h⟩ | ⟨_, h⟩
 ·have := Nat.eq_of_beq_eq_true hb; subst this; cases h; exact Abn aokC AyN rfl
 rcases Aau h with ⟨hb, h⟩ | ⟨_, h⟩
 ·have := Nat.eq_of_beq_eq_true hb; subst this; cases h; exact Abn aokC turnG_ok rfl
 rcases Aau h with ⟨hb, h⟩ | ⟨_, h⟩
 ·have := Nat.eq_of_beq_eq_true hb; subst this; cases h; exact Abn aokC headG_ok rfl
 rcases Aau h with ⟨hb, h⟩ | ⟨_, h⟩
 ·have := Nat.eq_of_beq_eq_true hb; subst this; cases h; exact Abn aokC Atf rfl
 rcases Aau h with ⟨hb, h⟩ | ⟨_, h⟩
 ·have := Nat.eq_of_beq_eq_true hb; subst this; cases h; exact Abn aokC encG_ok rfl
 rcases Aau h with ⟨hb, h⟩ | ⟨_, h⟩
 ·have := Nat.eq_of_beq_eq_true hb; subst this; cases h; exact Abn aokC blockG_ok rfl
 rcases Aau h with ⟨hb, h⟩ | ⟨_, h⟩
 ·have := Nat.eq_of_beq_eq_true hb; subst this; cases h; exact Abn aokC headRG_ok rfl
 cases h
theorem aokX {E : Nat → Option (List AVal → Option AVal)} (hE : ∀ n g, E n = some g → Aba Tryz.prog n g) : AOk Tryz.prog (APx E) where
 fn f af h := h
 prim f p h := (Bcu f p h).1
 wr f p h := (Bcu f p h).2
 pure f g h := hE f g h
 dprim f p h := by
  have h : AnJ f = some p := h
  unfold AnJ at h
  rcases Aau h with ⟨hb, h⟩ | ⟨_, h⟩
  ·have := Nat.eq_of_beq_eq_true hb; subst this; cases h; exact AzT Tryz.muLib
  ·cases h
 dwr f p h := by
  have h : AnJ f = some p := h
  unfold AnJ at h
  rcases Aau h with ⟨hb, h⟩ | ⟨_, h⟩
  ·cases h; exact AzS
  ·cases h
theorem Arc {g : List AVal → Option AVal} : ∀ {T : List (List AVal × AVal)}, (∀ p ∈ T, g p.1 = some p.2) → ∀ args r, litG T args = some r → g args = some r
 | [], _, _, _, h => by cases h
 | (a, v) :: T, hT, args, r, h => by
   unfold litG at h
   rcases Aau h with ⟨hb, h⟩ | ⟨_, h⟩
   ·cases h
    rw [← Aef hb]
    exact hT (a, v) (List.mem_cons_self ..)
   ·exact Arc (fun p hp => hT p (List.mem_cons_of_mem _ hp)) args r h
theorem pureT_ok {D : Nat → Bool} (hD : ∀ n, D n = true → Aba Tryz.prog n Acd) : ∀ n g, pureT D n = some g → Aba Tryz.prog n g := by
 intro n g h
 unfold pureT at h
 rcases Aau h with ⟨hb, h⟩ | ⟨_, h⟩
 ·cases h; exact hD n hb
 rcases Aau h with ⟨hb, h⟩ | ⟨_, h⟩
 ·have := Nat.eq_of_beq_eq_true hb; subst this; cases h
  exact fun args r hr => Abn aokC newG_ok rfl args r (Arc (fun p hp => by
   rcases List.mem_cons.1 hp with rfl | hp
   ·exact lk1
   ·rcases List.mem_cons.1 hp with rfl | hp
    ·exact lk4
    ·cases hp) args r hr)
 rcases Aau h with ⟨hb, h⟩ | ⟨_, h⟩
 ·have := Nat.eq_of_beq_eq_true hb; subst this; cases h
  exact fun args r hr => Abn aokC Atf rfl args r (Arc (fun p hp => by
   rcases List.mem_cons.1 hp with rfl | hp
   ·exact lk2
   ·cases hp) args r hr)
 rcases Aau h with ⟨hb, h⟩ | ⟨_, h⟩
 ·have := Nat.eq_of_beq_eq_true hb; subst this; cases h
  exact fun args r hr => Abn aokC AyN rfl args r (Arc (fun p hp => by
   rcases List.mem_cons.1 hp with rfl | hp
   ·exact lk3
   ·cases hp) args r hr)
 exact AyJ n g h
theorem aokT {D : Nat → Bool} (hD : ∀ n, D n = true → Aba Tryz.prog n Acd) : AOk Tryz.prog (APt D) := aokX (pureT_ok hD)
theorem Abx {D : Nat → Bool} (hD : ∀ n, D n = true → Aba Tryz.prog n Acd) {f : Nat} (hp : pureT D f = none) (h : AbK (APt D) (exec (APt D) 400) f [] = some (.bool true)) : Aba Tryz.prog f Acd :=
 Abn (aokT hD) (fun args r hr => by
  unfold Acd at hr
  split at hr
  ·cases hr; exact AhB 400 ((AjV hp).trans h)
  ·cases hr) hp
theorem Bct {D : Nat → Bool} (hD : ∀ n, D n = true → Aba Tryz.prog n Acd) : ∀ n g, AyK D n = some g → Aba Tryz.prog n g := by
 intro n g h
 unfold AyK at h
 rcases Aau h with ⟨hb, h⟩ | ⟨_, h⟩
 ·cases h; exact hD n hb
 exact AyJ n g h
theorem BbF {D : Nat → Bool} (hD : ∀ n, D n = true → Aba Tryz.prog n Acd) {f : Nat} (hp : AyK D f = none) (h : AbK (AP30 D) (exec (AP30 D) 400) f [] = some (.bool true)) : Aba Tryz.prog f Acd :=
 Abn (aokX (Bct hD)) (fun args r hr => by
  unfold Acd at hr
  split at hr
  ·cases hr; exact AhB 400 ((AjV hp).trans h)
  ·cases hr) hp
end Go.Eng.Ses
