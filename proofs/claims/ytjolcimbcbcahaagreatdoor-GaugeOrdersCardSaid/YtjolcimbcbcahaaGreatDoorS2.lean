/- The machine's entries do what the program's functions do; no condition. -/
import Derived.Shelf.Strings.OnBuilder
import Derived.Shelf.Strings.Repeat
import Derived.Test.YtjolcimbcbcahaaGreatDoorProg
import Derived.KernelRfl
import Derived.Conc.MuLone
import Derived.Test.YtjolcimbcbcahaaGreatDoorS1
import Derived.Test.YtjolcimbcbcahaaGreatDoorE5
import Derived.Test.YtjolcimbcbcahaaGreatDoorE6
set_option linter.unusedSectionVars false
set_option linter.unusedVariables false
set_option linter.unusedSimpArgs false
set_option linter.unnecessarySimpa false
namespace Go.Proofs
open Go.Shelf
def Tryz.lays156_ren : Go.Shelf.Ren := ⟨fun | 156 => 349 | 165 => 267 | 166 => 268 | 169 => 270 | 240 => 354 | 241 => 355 | 276 => 410 | 277 => 411 | n => n, fun | 31 => 145 | 9 => 9 | 3 => 3 | 4 => 4 | 0 => 0 | 20 => 20 | 72 => 386 | 76 => 390 | 70 => 384 | 37 => 307 | 75 => 389 | 127 => 474 | 164 => 399 | 5 => 5 | 80 => 173 | n => n, fun | n => n⟩
theorem Tryz.lays156 : Go.Proofs.Lays.n156 Tryz.prog Tryz.lays156_ren := {
 mixed := by kernel_rfl
 f156 := Tryz.func349.trans (congrArg some (by kernel_rfl))
 f165 := Tryz.func267.trans (congrArg some (by kernel_rfl))
 f166 := Tryz.func268.trans (congrArg some (by kernel_rfl))
 f169 := Tryz.func270.trans (congrArg some (by kernel_rfl))
 f240 := Tryz.func354.trans (congrArg some (by kernel_rfl))
 f241 := Tryz.func355.trans (congrArg some (by kernel_rfl))
 f276 := Tryz.func410.trans (congrArg some (by kernel_rfl))
 f277 := Tryz.func411.trans (congrArg some (by kernel_rfl))
 t0 := Tryz.underlying0
 a0 := Tryz.isAgg0
 z0 := Tryz.sizeOf0
 v0 := Tryz.zeroValue0
 t3 := Tryz.underlying3
 a3 := Tryz.isAgg3
 z3 := Tryz.sizeOf3
 v3 := Tryz.zeroValue3
 t4 := Tryz.underlying4
 a4 := Tryz.isAgg4
 z4 := Tryz.sizeOf4
 v4 := Tryz.zeroValue4
 t9 := Tryz.underlying9
 a9 := Tryz.isAgg9
 z9 := Tryz.sizeOf9
 v9 := Tryz.zeroValue9
 t20 := Tryz.underlying20
 a20 := Tryz.isAgg20
 z20 := Tryz.sizeOf20
 v20 := Tryz.zeroValue20
 t31 := Tryz.underlying145
 a31 := Tryz.isAgg145
 z31 := Tryz.sizeOf145
 v31 := Tryz.zeroValue145
 t37 := Tryz.underlying307
 a37 := Tryz.isAgg307
 z37 := Tryz.sizeOf307
 v37 := Tryz.zeroValue307
 t70 := Tryz.underlying384
 a70 := Tryz.isAgg384
 z70 := Tryz.sizeOf384
 v70 := Tryz.zeroValue384
 t72 := Tryz.underlying386
 a72 := Tryz.isAgg386
 z72 := Tryz.sizeOf386
 v72 := Tryz.zeroValue386
 t75 := Tryz.underlying389
 a75 := Tryz.isAgg389
 z75 := Tryz.sizeOf389
 v75 := Tryz.zeroValue389
 t76 := Tryz.underlying390
 a76 := Tryz.isAgg390
 z76 := Tryz.sizeOf390
 v76 := Tryz.zeroValue390
 t127 := Tryz.underlying474
 a127 := Tryz.isAgg474
 z127 := Tryz.sizeOf474
 v127 := Tryz.zeroValue474
 t164 := Tryz.underlying399
 a164 := Tryz.isAgg399
 z164 := Tryz.sizeOf399
 v164 := Tryz.zeroValue399 }
theorem Tryz.Builder_Extra_156 : Builder.Extra Tryz.prog Tryz.lays156_ren := {
 sizeBuilder := by kernel_rfl
 liesBuilder := by kernel_rfl
 t5 := Tryz.underlying5
 a5 := Tryz.isAgg5
 z5 := Tryz.sizeOf5
 v5 := Tryz.zeroValue5
 infoByte := by kernel_rfl
 cellsByte := by kernel_rfl
 sizeByte := by kernel_rfl
 neB5 := by decide }
def Tryz.lays105_ren : Go.Shelf.Ren := ⟨fun | 105 => 218 | 212 => 265 | 99 => 266 | 165 => 267 | 166 => 268 | 170 => 269 | 169 => 270 | 263 => 351 | 264 => 352 | 206 => 353 | 240 => 354 | 241 => 355 | 276 => 410 | 277 => 411 | n => n, fun | 9 => 9 | 3 => 3 | 4 => 4 | 20 => 20 | 0 => 0 | 46 => 352 | 109 => 381 | 5 => 5 | 72 => 386 | 76 => 390 | 51 => 59 | 146 => 470 | 53 => 27 | 148 => 472 | 70 => 384 | 37 => 307 | 75 => 389 | 127 => 474 | 164 => 399 | 80 => 173 | n => n, fun | n => n⟩
theorem Tryz.lays105 : Go.Proofs.Lays.n105 Tryz.prog Tryz.lays105_ren := {
 mixed := by kernel_rfl
 f99 := Tryz.func266.trans (congrArg some (by kernel_rfl))
 f105 := Tryz.func218.trans (congrArg some (by kernel_rfl))
 f165 := Tryz.func267.trans (congrArg some (by kernel_rfl))
 f166 := Tryz.func268.trans (congrArg some (by kernel_rfl))
 f169 := Tryz.func270.trans (congrArg some (by kernel_rfl))
 f170 := Tryz.func269.trans (congrArg some (by kernel_rfl))
 f206 := Tryz.func353.trans (congrArg some (by kernel_rfl))
 f212 := Tryz.func265.trans (congrArg some (by kernel_rfl))
 f240 := Tryz.func354.trans (congrArg some (by kernel_rfl))
 f241 := Tryz.func355.trans (congrArg some (by kernel_rfl))
 f263 := Tryz.func351.trans (congrArg some (by kernel_rfl))
 f264 := Tryz.func352.trans (congrArg some (by kernel_rfl))
 f276 := Tryz.func410.trans (congrArg some (by kernel_rfl))
 f277 := Tryz.func411.trans (congrArg some (by kernel_rfl))
 t0 := Tryz.underlying0
 a0 := Tryz.isAgg0
 z0 := Tryz.sizeOf0
 v0 := Tryz.zeroValue0
 t3 := Tryz.underlying3
 a3 := Tryz.isAgg3
 z3 := Tryz.sizeOf3
 v3 := Tryz.zeroValue3
 t4 := Tryz.underlying4
 a4 := Tryz.isAgg4
 z4 := Tryz.sizeOf4
 v4 := Tryz.zeroValue4
 t5 := Tryz.underlying5
 a5 := Tryz.isAgg5
 z5 := Tryz.sizeOf5
 v5 := Tryz.zeroValue5
 t9 := Tryz.underlying9
 a9 := Tryz.isAgg9
 z9 := Tryz.sizeOf9
 v9 := Tryz.zeroValue9
 t20 := Tryz.underlying20
 a20 := Tryz.isAgg20
 z20 := Tryz.sizeOf20
 v20 := Tryz.zeroValue20
 t37 := Tryz.underlying307
 a37 := Tryz.isAgg307
 z37 := Tryz.sizeOf307
 v37 := Tryz.zeroValue307
 t46 := Tryz.underlying352
 a46 := Tryz.isAgg352
 z46 := Tryz.sizeOf352
 v46 := Tryz.zeroValue352
 t51 := Tryz.underlying59
 a51 := Tryz.isAgg59
 z51 := Tryz.sizeOf59
 v51 := Tryz.zeroValue59
 t53 := Tryz.underlying27
 a53 := Tryz.isAgg27
 z53 := Tryz.sizeOf27
 v53 := Tryz.zeroValue27
 t70 := Tryz.underlying384
 a70 := Tryz.isAgg384
 z70 := Tryz.sizeOf384
 v70 := Tryz.zeroValue384
 t72 := Tryz.underlying386
 a72 := Tryz.isAgg386
 z72 := Tryz.sizeOf386
 v72 := Tryz.zeroValue386
 t75 := Tryz.underlying389
 a75 := Tryz.isAgg389
 z75 := Tryz.sizeOf389
 v75 := Tryz.zeroValue389
 t76 := Tryz.underlying390
 a76 := Tryz.isAgg390
 z76 := Tryz.sizeOf390
 v76 := Tryz.zeroValue390
 t109 := Tryz.underlying381
 a109 := Tryz.isAgg381
 z109 := Tryz.sizeOf381
 v109 := Tryz.zeroValue381
 t127 := Tryz.underlying474
 a127 := Tryz.isAgg474
 z127 := Tryz.sizeOf474
 v127 := Tryz.zeroValue474
 t146 := Tryz.underlying470
 a146 := Tryz.isAgg470
 z146 := Tryz.sizeOf470
 v146 := Tryz.zeroValue470
 t148 := Tryz.underlying472
 a148 := Tryz.isAgg472
 z148 := Tryz.sizeOf472
 v148 := Tryz.zeroValue472
 t164 := Tryz.underlying399
 a164 := Tryz.isAgg399
 z164 := Tryz.sizeOf399
 v164 := Tryz.zeroValue399 }
theorem Tryz.Builder_Extra_105 : Builder.Extra Tryz.prog Tryz.lays105_ren := {
 sizeBuilder := by kernel_rfl
 liesBuilder := by kernel_rfl
 t5 := Tryz.underlying5
 a5 := Tryz.isAgg5
 z5 := Tryz.sizeOf5
 v5 := Tryz.zeroValue5
 infoByte := by kernel_rfl
 cellsByte := by kernel_rfl
 sizeByte := by kernel_rfl
 neB5 := by decide }
end Go.Proofs
namespace Go.Proofs
abbrev Tryz.muLink : Go.Conc.Locks.MuLink := { lock := 199, unlock := 166, ilock := 249, iunlock := 223, lockSlow := 332, unlockSlow := 282, disable := 280, enable := 283, acquire := 331, relMerge := 279, cas32 := 330, add32 := 281, tMutex := 254, tIMutex := 252, tPMutex := 334, tPIMutex := 397, tPI32 := 401, tUP := 399, tNoCopy := 250, tU32 := 59 }
theorem Tryz.muLib : Go.Conc.Locks.MuLib Tryz.prog Tryz.muLink :=
 ⟨Tryz.func199, Tryz.func166, Tryz.func249, Tryz.func223, Tryz.func280, Tryz.func283, Tryz.func331, Tryz.func279, Tryz.func330, Tryz.func281, Tryz.underlying252, Tryz.runUnderlying252, Tryz.sizeOf252, Tryz.isAgg252, Tryz.zeroValue252, Tryz.underlying254, Tryz.runUnderlying254, Tryz.sizeOf254, Tryz.isAgg254, Tryz.zeroValue254, Tryz.underlying334, Tryz.runUnderlying334, Tryz.sizeOf334, Tryz.isAgg334, Tryz.zeroValue334, Tryz.underlying397, Tryz.runUnderlying397, Tryz.sizeOf397, Tryz.isAgg397, Tryz.zeroValue397, Tryz.underlying401, Tryz.runUnderlying401, Tryz.sizeOf401, Tryz.isAgg401, Tryz.zeroValue401, Tryz.underlying399, Tryz.runUnderlying399, Tryz.sizeOf399, Tryz.isAgg399, Tryz.zeroValue399, Tryz.underlying250, Tryz.runUnderlying250, Tryz.sizeOf250, Tryz.isAgg250, Tryz.zeroValue250, Tryz.underlying21, Tryz.runUnderlying21, Tryz.sizeOf21, Tryz.isAgg21, Tryz.zeroValue21, (by kernel_rfl)⟩
end Go.Proofs
namespace Go.Eng.Ses
open Go Go.Eng Go.Proofs
set_option maxRecDepth 100000
theorem cc159 : Ah Tryz.prog 159 = some Akb := by kernel_rfl
theorem cc303 : Ah Tryz.prog 303 = some Adn := by kernel_rfl
theorem cc359 : Ah Tryz.prog 359 = some Ado := by kernel_rfl
theorem cc402 : Ah Tryz.prog 402 = some Ake := by kernel_rfl
theorem cc216 : Ah Tryz.prog 216 = some AeP := by kernel_rfl
theorem cc217 : Ah Tryz.prog 217 = some Anr := by kernel_rfl
theorem cc379 : Ah Tryz.prog 379 = some AcL := by kernel_rfl
theorem cc380 : Ah Tryz.prog 380 = some Ako := by kernel_rfl
theorem cc381 : Ah Tryz.prog 381 = some AdZ := by kernel_rfl
theorem cc416 : Ah Tryz.prog 416 = some AhE := by kernel_rfl
theorem cc442 : Ah Tryz.prog 442 = some AfQ := by kernel_rfl
theorem cc441 : Ah Tryz.prog 441 = some Akg := by kernel_rfl
theorem cc444 : Ah Tryz.prog 444 = some Akf := by kernel_rfl
theorem cc443 : Ah Tryz.prog 443 = some Ann := by kernel_rfl
theorem cc262 : Ah Tryz.prog 262 = some Akn := by kernel_rfl
theorem cc263 : Ah Tryz.prog 263 = some Ans := by kernel_rfl
theorem cc264 : Ah Tryz.prog 264 = some AhH := by kernel_rfl
theorem cc424 : Ah Tryz.prog 424 = some AhF := by kernel_rfl
theorem cc423 : Ah Tryz.prog 423 = some Ack := by kernel_rfl
theorem cc382 : Ah Tryz.prog 382 = some Ahy := by kernel_rfl
theorem cc496 : Ah Tryz.prog 496 = some AfP := by kernel_rfl
theorem cc400 : Ah Tryz.prog 400 = some Anp := by kernel_rfl
theorem cc497 : Ah Tryz.prog 497 = some Aki := by kernel_rfl
theorem cc348 : Ah Tryz.prog 348 = some Akm := by kernel_rfl
theorem cc277 : Ah Tryz.prog 277 = some AjZ := by kernel_rfl
theorem cc350 : Ah Tryz.prog 350 = some AR := by kernel_rfl
theorem cc278 : Ah Tryz.prog 278 = some AjV := by kernel_rfl
theorem cc471 : Ah Tryz.prog 471 = some Adr := by kernel_rfl
theorem cc472 : Ah Tryz.prog 472 = some Anq := by kernel_rfl
theorem cc473 : Ah Tryz.prog 473 = some AcM := by kernel_rfl
theorem cc474 : Ah Tryz.prog 474 = some AhG := by kernel_rfl
theorem cc521 : Ah Tryz.prog 521 = some Anm := by kernel_rfl
theorem cc522 : Ah Tryz.prog 522 = some AhB := by kernel_rfl
theorem cc523 : Ah Tryz.prog 523 = some ArP := by kernel_rfl
theorem cc524 : Ah Tryz.prog 524 = some Ano := by kernel_rfl
theorem cc525 : Ah Tryz.prog 525 = some AhD := by kernel_rfl
theorem cc526 : Ah Tryz.prog 526 = some Akj := by kernel_rfl
theorem cc356 : Ah Tryz.prog 356 = some Anj := by kernel_rfl
theorem cc515 : Ah Tryz.prog 515 = some AeR := by kernel_rfl
theorem cc544 : Ah Tryz.prog 544 = some Anl := by kernel_rfl
theorem cc545 : Ah Tryz.prog 545 = some AhC := by kernel_rfl
theorem cc546 : Ah Tryz.prog 546 = some Ayj := by kernel_rfl
theorem cc547 : Ah Tryz.prog 547 = some Akh := by kernel_rfl
theorem cc412 : Ah Tryz.prog 412 = some Ahx := by kernel_rfl
theorem cc413 : Ah Tryz.prog 413 = some Aka := by kernel_rfl
theorem cc414 : Ah Tryz.prog 414 = some Ahw := by kernel_rfl
theorem cc415 : Ah Tryz.prog 415 = some AjY := by kernel_rfl
theorem cc457 : Ah Tryz.prog 457 = some AkT := by kernel_rfl
theorem cc458 : Ah Tryz.prog 458 = some AfM := by kernel_rfl
theorem cc192 : Ah Tryz.prog 192 = some AjW := by kernel_rfl
theorem cc459 : Ah Tryz.prog 459 = some Ahv := by kernel_rfl
theorem cc352 : Ah Tryz.prog 352 = some Aci := by kernel_rfl
theorem cc508 : Ah Tryz.prog 508 = some AaG := by kernel_rfl
theorem AsC (args : List Zv) (r : Zv) (h : Aez args = some r) : r.flat = true := by
 unfold Aez at h
 repeat' (split at h)
 all_goals first | (cases h; rfl) | cases h
theorem join_p : AG Tryz.prog 349 Aqm := Aco (join_ok Tryz.lays156 Tryz.Builder_Extra_156 Tryz.func349 (by kernel_rfl) (by kernel_rfl)) BaY
theorem AyR : Abj Tryz.prog 218 (Afs Aez) := repeat_ok Tryz.lays105 Tryz.Builder_Extra_105 Tryz.func218 (by kernel_rfl) (by kernel_rfl)
theorem repeat_p : AG Tryz.prog 218 Aez := Aco AyR AsC
theorem aokC : AOk Tryz.prog AP0 where
 fn f af h := by
  simp only [AP0] at h
  split at h
  ·cases h; exact cc159
  ·cases h; exact cc303
  ·cases h; exact cc359
  ·cases h; exact cc402
  ·cases h; exact cc216
  ·cases h; exact cc217
  ·cases h; exact cc379
  ·cases h; exact cc380
  ·cases h; exact cc381
  ·cases h; exact cc416
  ·cases h; exact cc442
  ·cases h; exact cc441
  ·cases h; exact cc444
  ·cases h; exact cc443
  ·cases h; exact cc262
  ·cases h; exact cc263
  ·cases h; exact cc264
  ·cases h; exact cc424
  ·cases h; exact cc423
  ·cases h; exact cc382
  ·cases h; exact cc496
  ·cases h; exact cc400
  ·cases h; exact cc497
  ·cases h; exact cc348
  ·cases h; exact cc277
  ·cases h; exact cc350
  ·cases h; exact cc278
  ·cases h; exact cc471
  ·cases h; exact cc472
  ·cases h; exact cc473
  ·cases h; exact cc474
  ·cases h; exact cc521
  ·cases h; exact cc522
  ·cases h; exact cc523
  ·cases h; exact cc524
  ·cases h; exact cc525
  ·cases h; exact cc526
  ·cases h; exact cc356
  ·cases h; exact cc515
  ·cases h; exact cc544
  ·cases h; exact cc545
  ·cases h; exact cc546
  ·cases h; exact cc547
  ·cases h; exact cc412
  ·cases h; exact cc413
  ·cases h; exact cc414
  ·cases h; exact cc415
  ·cases h; exact cc457
  ·cases h; exact cc458
  ·cases h; exact cc192
  ·cases h; exact cc459
  ·cases h; exact cc352
  ·cases h; exact cc508
  ·cases h
 prim f p h := by cases h
 wr f p h := by cases h
 pure f g h := by
  simp only [AP0] at h
  split at h
  ·cases h; exact repeat_p
  ·cases h; exact join_p
  ·cases h
theorem bfS {α : Type} {b : Bool} {x y : Option α} {z : α} (h : (bif b then x else y) = some z) : (b = true ∧ x = some z) ∨ (b = false ∧ y = some z) := by cases b <;> simp_all
noncomputable def AP1 : Aaa := { fn := fn30, keep := fun _ => false, split := fun _ => false, prim := fun _ => none, slim := true }
theorem aok1 : AOk Tryz.prog AP1 where
 fn f af h := h
 prim f p h := by cases h
 wr f p h := by cases h
 pure f g h := by cases h
def ndB (o : Oper) : Bool := match o.op with
 | .defer _ => false
 | _ => true
theorem AeD {a : Array Oper} (h : a.toList.all ndB = true) (i : Nat) (o : Oper) (ho : a[i]? = some o) (c : Call) : o.op ≠ .defer c := by
 have := List.all_eq_true.1 h o (by simpa using Array.mem_of_getElem? ho)
 intro e
 simp [ndB, e] at this
def laB (o : Oper) : Bool := match o.op with
 | .load _ _ => true
 | .assign _ => true
 | _ => false
theorem la_of {a : Array Oper} (h : a.toList.all laB = true) (i : Nat) (o : Oper) (ho : a[i]? = some o) : (∃ t x, o.op = .load t x) ∨ ∃ x, o.op = .assign x := by
 have := List.all_eq_true.1 h o (by simpa using Array.mem_of_getElem? ho)
 unfold laB at this
 split at this
 ·exact .inl ⟨_, _, by assumption⟩
 ·exact .inr ⟨_, by assumption⟩
 ·cases this
theorem appMapW (g : Nat) : Ayt (Akw g) := by
 intro slot args S e rds h x hx
 unfold Akw at h
 split at h
 ·obtain ⟨blk, rl, hb, h, rfl⟩ := Ay h
  simp only at h
  split at h
  ·obtain ⟨blk2, rl2, hb2, h, rfl⟩ := Ay h
   simp only at h
   split at h
   ·split at h
    ·simp only [RM.run, Option.some.injEq, Prod.mk.injEq] at h
     obtain ⟨rfl, -⟩ := h; simp at hx
    ·split at h
     ·simp only [RM.run, Option.some.injEq, Prod.mk.injEq] at h
      obtain ⟨rfl, -⟩ := h; simp at hx
     ·exact (Aa h).elim
    ·exact (Aa h).elim
   ·exact (Aa h).elim
  ·exact (Aa h).elim
 ·exact (Aa h).elim
theorem app541 : Abj Tryz.prog 541 (Agc (appG 513 6 48)) :=
 AvS (app_keep (zero := [.int .u16 0, .int .u16 0, .int .u64 0, .int .i64 0, .bool false, .str []]) aok1 Tryz.func513 rfl rfl rfl (by decide) (by kernel_rfl) (by kernel_rfl) (by kernel_rfl) (by kernel_rfl) (by kernel_rfl) (AeD (by kernel_rfl)) (AeD (by kernel_rfl)) (AeD (by kernel_rfl)) (AeD (by kernel_rfl)) (AeD (by kernel_rfl)) (by kernel_rfl) (by kernel_rfl) (AeD (by kernel_rfl)) (AeD (by kernel_rfl)) rfl (by decide) Tryz.func541 rfl rfl rfl (by kernel_rfl) (by kernel_rfl) (by kernel_rfl) (AeD (by kernel_rfl)) (AeD (by kernel_rfl)) (AeD (by kernel_rfl)) (la_of (by kernel_rfl)))
theorem app306 : Abj Tryz.prog 306 (Akw 307) :=
 appMap_ok (zero := [.int .u64 0]) (bytes := 8) aok1 Tryz.func307 (by decide) rfl rfl rfl (by kernel_rfl) (by kernel_rfl) (by kernel_rfl) (by kernel_rfl) (AeD (by kernel_rfl)) (AeD (by kernel_rfl)) (AeD (by kernel_rfl)) (AeD (by kernel_rfl)) (by kernel_rfl) (by kernel_rfl) (AeD (by kernel_rfl)) (AeD (by kernel_rfl)) rfl (by decide) (by decide) Tryz.func306 rfl rfl rfl (by kernel_rfl) (by kernel_rfl) (by kernel_rfl) (AeD (by kernel_rfl)) (AeD (by kernel_rfl)) (AeD (by kernel_rfl)) (la_of (by kernel_rfl))
theorem prim_ok : ∀ n p, prim30 n = some p → Abj Tryz.prog n p ∧ Ayt p := by
 intro n p h
 unfold prim30 at h
 rcases bfS h with ⟨hb, h⟩ | ⟨_, h⟩
 ·have := Nat.eq_of_beq_eq_true hb; subst this; cases h; exact ⟨Amu Tryz.func136 (by kernel_rfl) (by kernel_rfl) (by kernel_rfl) (by kernel_rfl), Alj _⟩
 rcases bfS h with ⟨hb, h⟩ | ⟨_, h⟩
 ·have := Nat.eq_of_beq_eq_true hb; subst this; cases h; exact ⟨Ayo Tryz.func137 (by kernel_rfl) (by kernel_rfl) (by kernel_rfl) (by kernel_rfl), Alj _⟩
 rcases bfS h with ⟨hb, h⟩ | ⟨_, h⟩
 ·have := Nat.eq_of_beq_eq_true hb; subst this; cases h; exact ⟨Bcn Tryz.muLib, AiY _⟩
 rcases bfS h with ⟨hb, h⟩ | ⟨_, h⟩
 ·have := Nat.eq_of_beq_eq_true hb; subst this; cases h; exact ⟨lock_ok Tryz.muLib, AiY _⟩
 rcases bfS h with ⟨hb, h⟩ | ⟨_, h⟩
 ·have := Nat.eq_of_beq_eq_true hb; subst this; cases h; exact ⟨AyR, Alj _⟩
 rcases bfS h with ⟨hb, h⟩ | ⟨_, h⟩
 ·have := Nat.eq_of_beq_eq_true hb; subst this; cases h; exact ⟨load64_ok Tryz.func246 (by kernel_rfl) (by kernel_rfl) (by kernel_rfl) (by kernel_rfl), AiY _⟩
 rcases bfS h with ⟨hb, h⟩ | ⟨_, h⟩
 ·have := Nat.eq_of_beq_eq_true hb; subst this; cases h; exact ⟨cas64_ok Tryz.func284 (by kernel_rfl) (by kernel_rfl) (by kernel_rfl) (by kernel_rfl), AiY _⟩
 rcases bfS h with ⟨hb, h⟩ | ⟨_, h⟩
 ·have := Nat.eq_of_beq_eq_true hb; subst this; cases h; exact ⟨add64_ok Tryz.func305 (by kernel_rfl) (by kernel_rfl) (by kernel_rfl) (by kernel_rfl), AiY _⟩
 rcases bfS h with ⟨hb, h⟩ | ⟨_, h⟩
 ·have := Nat.eq_of_beq_eq_true hb; subst this; cases h; exact ⟨app306, appMapW _⟩
 rcases bfS h with ⟨hb, h⟩ | ⟨_, h⟩
 ·have := Nat.eq_of_beq_eq_true hb; subst this; cases h; exact ⟨Awm Tryz.func410 (by kernel_rfl) (by kernel_rfl) (by kernel_rfl) (by kernel_rfl), idP_wr⟩
 rcases bfS h with ⟨hb, h⟩ | ⟨_, h⟩
 ·have := Nat.eq_of_beq_eq_true hb; subst this; cases h; exact ⟨Ayo Tryz.func428 (by kernel_rfl) (by kernel_rfl) (by kernel_rfl) (by kernel_rfl), Alj _⟩
 rcases bfS h with ⟨hb, h⟩ | ⟨_, h⟩
 ·have := Nat.eq_of_beq_eq_true hb; subst this; cases h; exact ⟨app541, AvR _⟩
 cases h
theorem AyV : ∀ n g, pureC n = some g → AG Tryz.prog n g := by
 intro n g h
 unfold pureC at h
 rcases bfS h with ⟨hb, h⟩ | ⟨_, h⟩
 ·have := Nat.eq_of_beq_eq_true hb; subst this; cases h; exact AY aokC newG_ok rfl
 rcases bfS h with ⟨hb, h⟩ | ⟨_, h⟩
 ·have := Nat.eq_of_beq_eq_true hb; subst this; cases h; exact AY aokC akeyG_ok rfl
 rcases bfS h with ⟨hb, h⟩ | ⟨_, h⟩
 ·have := Nat.eq_of_beq_eq_true hb; subst this; cases h; exact AY aokC hmacG_ok rfl
 rcases bfS h with ⟨hb, h⟩ | ⟨_, h⟩
 ·have := Nat.eq_of_beq_eq_true hb; subst this; cases h; exact AY aokC textG_ok rfl
 rcases bfS h with ⟨hb, h⟩ | ⟨_, h⟩
 ·have := Nat.eq_of_beq_eq_true hb; subst this; cases h; exact AY aokC sealG_ok rfl
 rcases bfS h with ⟨hb, h⟩ | ⟨_, h⟩
 ·have := Nat.eq_of_beq_eq_true hb; subst this; cases h; exact join_p
 rcases bfS h with ⟨hb, h⟩ | ⟨_, h⟩
 ·have := Nat.eq_of_beq_eq_true hb; subst this; cases h; exact AY aokC AyZ rfl
 rcases bfS h with ⟨hb, h⟩ | ⟨_, h⟩
 ·have := Nat.eq_of_beq_eq_true hb; subst this; cases h; exact AY aokC turnG_ok rfl
 rcases bfS h with ⟨hb, h⟩ | ⟨_, h⟩
 ·have := Nat.eq_of_beq_eq_true hb; subst this; cases h; exact AY aokC headG_ok rfl
 rcases bfS h with ⟨hb, h⟩ | ⟨_, h⟩
 ·have := Nat.eq_of_beq_eq_true hb; subst this; cases h; exact AY aokC Asr rfl
 rcases bfS h with ⟨hb, h⟩ | ⟨_, h⟩
 ·have := Nat.eq_of_beq_eq_true hb; subst this; cases h; exact AY aokC encG_ok rfl
 rcases bfS h with ⟨hb, h⟩ | ⟨_, h⟩
 ·have := Nat.eq_of_beq_eq_true hb; subst this; cases h; exact AY aokC blockG_ok rfl
 rcases bfS h with ⟨hb, h⟩ | ⟨_, h⟩
 ·have := Nat.eq_of_beq_eq_true hb; subst this; cases h; exact AY aokC headRG_ok rfl
 cases h
theorem aokX {E : Nat → Option (List Zv → Option Zv)} (hE : ∀ n g, E n = some g → AG Tryz.prog n g) : AOk Tryz.prog (APx E) where
 fn f af h := h
 prim f p h := (prim_ok f p h).1
 wr f p h := (prim_ok f p h).2
 pure f g h := hE f g h
 dprim f p h := by
  have h : AmV f = some p := h
  unfold AmV at h
  rcases bfS h with ⟨hb, h⟩ | ⟨_, h⟩
  ·have := Nat.eq_of_beq_eq_true hb; subst this; cases h; exact Bam Tryz.muLib
  ·cases h
 dwr f p h := by
  have h : AmV f = some p := h
  unfold AmV at h
  rcases bfS h with ⟨hb, h⟩ | ⟨_, h⟩
  ·cases h; exact Bal
  ·cases h
theorem Aql {g : List Zv → Option Zv} : ∀ {T : List (List Zv × Zv)}, (∀ p ∈ T, g p.1 = some p.2) → ∀ args r, litG T args = some r → g args = some r
 | [], _, _, _, h => by cases h
 | (a, v) :: T, hT, args, r, h => by
   unfold litG at h
   rcases bfS h with ⟨hb, h⟩ | ⟨_, h⟩
   ·cases h
    rw [← AcZ hb]
    exact hT (a, v) (List.mem_cons_self ..)
   ·exact Aql (fun p hp => hT p (List.mem_cons_of_mem _ hp)) args r h
theorem pureT_ok {D : Nat → Bool} (hD : ∀ n, D n = true → AG Tryz.prog n Bo) : ∀ n g, pureT D n = some g → AG Tryz.prog n g := by
 intro n g h
 unfold pureT at h
 rcases bfS h with ⟨hb, h⟩ | ⟨_, h⟩
 ·cases h; exact hD n hb
 rcases bfS h with ⟨hb, h⟩ | ⟨_, h⟩
 ·have := Nat.eq_of_beq_eq_true hb; subst this; cases h
  exact fun args r hr => AY aokC newG_ok rfl args r (Aql (fun p hp => by
   rcases List.mem_cons.1 hp with rfl | hp
   ·exact lk1
   ·rcases List.mem_cons.1 hp with rfl | hp
    ·exact lk4
    ·cases hp) args r hr)
 rcases bfS h with ⟨hb, h⟩ | ⟨_, h⟩
 ·have := Nat.eq_of_beq_eq_true hb; subst this; cases h
  exact fun args r hr => AY aokC Asr rfl args r (Aql (fun p hp => by
   rcases List.mem_cons.1 hp with rfl | hp
   ·exact lk2
   ·cases hp) args r hr)
 rcases bfS h with ⟨hb, h⟩ | ⟨_, h⟩
 ·have := Nat.eq_of_beq_eq_true hb; subst this; cases h
  exact fun args r hr => AY aokC AyZ rfl args r (Aql (fun p hp => by
   rcases List.mem_cons.1 hp with rfl | hp
   ·exact lk3
   ·cases hp) args r hr)
 exact AyV n g h
theorem aokT {D : Nat → Bool} (hD : ∀ n, D n = true → AG Tryz.prog n Bo) : AOk Tryz.prog (APt D) := aokX (pureT_ok hD)
theorem Bk {D : Nat → Bool} (hD : ∀ n, D n = true → AG Tryz.prog n Bo) {f : Nat} (hp : pureT D f = none) (h : Ba (APt D) (AJ (APt D) 400) f [] = some (.bool true)) : AG Tryz.prog f Bo :=
 AY (aokT hD) (fun args r hr => by
  unfold Bo at hr
  split at hr
  ·cases hr; exact Alv 400 ((Alw hp).trans h)
  ·cases hr) hp
theorem pure30_ok {D : Nat → Bool} (hD : ∀ n, D n = true → AG Tryz.prog n Bo) : ∀ n g, AyW D n = some g → AG Tryz.prog n g := by
 intro n g h
 unfold AyW at h
 rcases bfS h with ⟨hb, h⟩ | ⟨_, h⟩
 ·cases h; exact hD n hb
 exact AyV n g h
theorem Bcq {D : Nat → Bool} (hD : ∀ n, D n = true → AG Tryz.prog n Bo) {f : Nat} (hp : AyW D f = none) (h : Ba (AP30 D) (AJ (AP30 D) 400) f [] = some (.bool true)) : AG Tryz.prog f Bo :=
 AY (aokX (pure30_ok hD)) (fun args r hr => by
  unfold Bo at hr
  split at hr
  ·cases hr; exact Alv 400 ((Alw hp).trans h)
  ·cases hr) hp
end Go.Eng.Ses
