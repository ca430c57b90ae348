/- A part of the engine: a machine over abstract values, and the proof that the program does what it does; no condition. -/
import Derived.Test.YtiomljbaolopiaaE3
import Derived.KernelRfl
import Derived.ProofKit
import Derived.Handed
set_option linter.unusedSectionVars false
set_option linter.unusedVariables false
set_option linter.unusedSimpArgs false
set_option linter.unnecessarySimpa false
/- More fuel: the same answer. -/
namespace Go.Eng
open Go

def LeR (r r' : Rec) : Prop := ∀ N c st x, r N c st = some x → r' N c st = some x

section
variable {AP : AProg} {r r' : Rec} (h : LeR r r')

def LeM {α : Type} (m m' : RM α) : Prop := ∀ S x, m.run S = some x → m'.run S = some x

theorem LeM.refl {α : Type} (m : RM α) : LeM m m := fun _ _ h => h
theorem LeM.fail {α : Type} (m : RM α) : LeM .fail m := fun _ _ h => by simp [RM.run] at h

theorem LeM.bind {α β : Type} {f f' : α → RM β} (hf : ∀ a, LeM (f a) (f' a)) : ∀ (m : RM α), LeM (m.bind f) (m.bind f')
  | .ok a, S, x, hx => hf a S x hx
  | .fail, S, x, hx => by simp [RM.bind, RM.run] at hx
  | .rd b k, S, x, hx => by
    simp only [RM.bind, RM.run] at hx ⊢
    cases hb : S[b]? with
    | none => rw [hb] at hx; simp at hx
    | some o =>
      cases o with
      | none => rw [hb] at hx; simp at hx
      | some blk =>
        rw [hb] at hx
        simp only at hx ⊢
        cases hk : ((k blk).bind f).run S with
        | none => rw [hk] at hx; simp at hx
        | some y => rw [hk] at hx; rw [LeM.bind hf (k blk) S y hk]; exact hx

include h
theorem callS_le {f : Nat} {args : List AVal} {S : Store} {x : AVal × Store} (hx : callS AP r f args S = some x) : callS AP r' f args S = some x := by
  unfold callS at hx ⊢
  cases hf : AP.fn f with
  | none => rw [hf] at hx; cases hx
  | some af =>
    rw [hf] at hx
    simp only at hx ⊢
    split at hx
    · rename_i hl
      rw [if_pos hl]
      cases hr : r (max af.nargs af.N) af.body ⟨args, S⟩ with
      | none => rw [hr] at hx; cases hx
      | some y => rw [hr] at hx; rw [h _ _ _ _ hr]; exact hx
    · cases hx

theorem callI_le {f : Nat} {args : List AVal} {x : AVal} (hx : callI AP r f args = some x) : callI AP r' f args = some x := by
  unfold callI at hx ⊢
  cases hc : callS AP r f args [] with
  | none => rw [hc] at hx; cases hx
  | some y => rw [hc] at hx; rw [callS_le h hc]; exact hx

theorem givesNone_le {f : Nat} {x : AVal} (hx : givesNone AP r f x = true) : givesNone AP r' f x = true := by
  unfold givesNone at hx ⊢
  cases hc : callS AP r f [x] [] with
  | none => rw [hc] at hx; cases hx
  | some y => rw [hc] at hx; rw [callS_le h hc]; exact hx

theorem semKeep_le (slot f : Nat) (args : List AVal) : LeM (semKeep AP r slot f args) (semKeep AP r' slot f args) := by
  unfold semKeep
  split
  · intro S x hx
    split at hx
    · rename_i hg
      simp only [Bool.and_eq_true] at hg
      rw [if_pos (by simp only [Bool.and_eq_true]; exact ⟨givesNone_le h hg.1, givesNone_le h hg.2⟩)]
      exact hx
    · simp [RM.run] at hx
  · refine LeM.bind (fun a => ?_) _
    split
    · intro S x hx
      cases hc : callS AP r f a.1 (a.2.1.map some) with
      | none => rw [hc] at hx; simp [RM.run] at hx
      | some y => rw [hc] at hx; rw [callS_le h hc]; exact hx
    · exact .fail _

theorem semCall_le (slot : Nat) (fv : AVal) (args : List AVal) : LeM (semCall AP r slot fv args) (semCall AP r' slot fv args) := by
  unfold semCall
  split
  · split
    · exact .refl _
    · split
      · exact semKeep_le h _ _ _
      · refine LeM.bind (fun a => ?_) _
        intro S x hx
        cases hc : callI AP r _ a with
        | none => rw [hc] at hx; simp [RM.run] at hx
        | some y => rw [hc] at hx; rw [callI_le h hc]; exact hx
  · exact .refl _

theorem semX_le (slot : Nat) (ρ : AOpd → AVal) (op : AOp) : LeM (semX AP r slot ρ op) (semX AP r' slot ρ op) := by
  cases op
  case call f args => exact semCall_le h _ _ _
  all_goals exact .refl _

theorem dstep_le {N slot : Nat} {i : AInstr} {st : St} {x : St × FP} (hx : dstep AP r N slot i st = some x) : dstep AP r' N slot i st = some x := by
  unfold dstep at hx ⊢
  split at hx
  · rename_i hN
    rw [if_pos hN]
    split at hx
    · cases hx
    · exact hx
    · cases hr : (semX AP r slot (opd st.fr) i.op).run st.S with
      | none => rw [hr] at hx; cases hx
      | some y => rw [hr] at hx; rw [semX_le h _ _ _ _ _ hr]; exact hx
  · cases hx

theorem step1_le {N : Nat} {i : AInstr} {st : St} {x : St} (hx : step1 AP r N i st = some x) : step1 AP r' N i st = some x := by
  unfold step1 at hx ⊢
  split at hx
  · split at hx
    · rename_i hN
      rw [if_pos hN]
      split at hx
      · rename_i hc
        rw [callS_le h hc]; exact hx
      · cases hx
    · cases hx
  · split at hx
    · rename_i hc
      cases hx
      split at hc
      · rename_i ha; rw [if_pos ha, dstep_le h hc]
      · rename_i ha; rw [if_neg ha, dstep_le h hc]
    · cases hx

theorem stepL_le {N : Nat} : ∀ {l : List AInstr} {st x : St}, stepL AP r N l st = some x → stepL AP r' N l st = some x
  | [], _, _, hx => hx
  | i :: l, st, x, hx => by
    unfold stepL at hx ⊢
    cases hs : step1 AP r N i st with
    | none => rw [hs] at hx; cases hx
    | some y => rw [hs] at hx; rw [step1_le h hs]; exact stepL_le hx

theorem drawL_le {N : Nat} : ∀ {l : List (AInstr × Nat)} {st : St} {x : St × List FP}, drawL AP r N l st = some x → drawL AP r' N l st = some x
  | [], _, _, hx => hx
  | y :: l, st, x, hx => by
    obtain ⟨st', fps⟩ := x
    obtain ⟨st1, fp, q, g1, g2, g3⟩ := drawL_cons hx
    subst g3
    exact drawL_mk (dstep_le h g1) (drawL_le g2)

theorem F_le : LeR (F AP r) (F AP r') := by
  intro N c st x hx
  cases c with
  | bad => exact hx
  | skip => exact hx
  | ret => exact hx
  | exit id => exact hx
  | ops l =>
    simp only [F] at hx ⊢
    cases hs : stepL AP r N l st with
    | none => rw [hs] at hx; cases hx
    | some y => rw [hs] at hx; rw [stepL_le h hs]; exact hx
  | draw l =>
    simp only [F] at hx ⊢
    split at hx
    · rename_i st1 fps hs
      rw [drawL_le h hs]; exact hx
    · cases hx
  | seq a b =>
    simp only [F] at hx ⊢
    cases hs : r N a st with
    | none => rw [hs] at hx; cases hx
    | some y =>
      obtain ⟨ex, st1⟩ := y
      rw [hs] at hx; rw [h _ _ _ _ hs]
      cases ex <;> first | exact h _ _ _ _ hx | exact hx
  | cond c a b =>
    simp only [F] at hx ⊢
    split at hx
    · exact h _ _ _ _ hx
    · exact h _ _ _ _ hx
    · cases hx
  | block id a =>
    simp only [F] at hx ⊢
    cases hs : r N a st with
    | none => rw [hs] at hx; cases hx
    | some y => rw [hs] at hx; rw [h _ _ _ _ hs]; exact hx
  | loop a =>
    simp only [F] at hx ⊢
    cases hs : r N a st with
    | none => rw [hs] at hx; cases hx
    | some y =>
      obtain ⟨ex, st1⟩ := y
      rw [hs] at hx; rw [h _ _ _ _ hs]
      cases ex <;> first | exact h _ _ _ _ hx | exact hx

end

theorem exec_le {AP : AProg} : ∀ (n m : Nat), n ≤ m → LeR (exec AP n) (exec AP m)
  | 0, _, _ => fun N c st x hx => by simp [exec] at hx
  | n + 1, 0, h => absurd h (by omega)
  | n + 1, m + 1, h => F_le (exec_le n m (by omega))

/-- a call answers so, with enough fuel -/
def CallR (AP : AProg) (f : Nat) (args : List AVal) (r : AVal) : Prop := ∃ n0, ∀ n, n0 ≤ n → callI AP (exec AP n) f args = some r

theorem callR_at {AP : AProg} {f : Nat} {args : List AVal} {r : AVal} (n : Nat) (h : callI AP (exec AP n) f args = some r) : CallR AP f args r :=
  ⟨n, fun m hm => callI_le (exec_le n m hm) h⟩

end Go.Eng

/- Walking through the machine's code: rules over a frame known in part. -/
namespace Go.Eng
open Go

def Ev {α : Type} (f : Nat → Option α) (r : α) : Prop := ∃ n0, ∀ n, n0 ≤ n → f n = some r

theorem Ev.const {α : Type} {x : Option α} {r : α} (h : x = some r) : Ev (fun _ => x) r := ⟨0, fun _ _ => h⟩
theorem Ev.bind {α β γ : Type} {f : Nat → Option α} {a : α} {g : Nat → Option β} {b : β} (hf : Ev f a) (hg : Ev g b) {k : Nat → Option γ} {c : γ} (hk : ∀ n, f n = some a → g n = some b → k n = some c) : Ev k c := by
  obtain ⟨n, hn⟩ := hf
  obtain ⟨m, hm⟩ := hg
  exact ⟨max n m, fun l hl => hk l (hn l (by omega)) (hm l (by omega))⟩
theorem Ev.map {α β : Type} {f : Nat → Option α} {a : α} {b : β} (hf : Ev f a) {k : Nat → Option β} (hk : ∀ n, f n = some a → k n = some b) : Ev k b := by
  obtain ⟨n, hn⟩ := hf
  exact ⟨n, fun l hl => hk l (hn l hl)⟩
theorem Ev.shift {α : Type} {k : Nat → Option α} {b : α} (h : Ev (fun n => k (n + 1)) b) : Ev k b := by
  obtain ⟨n, hn⟩ := h
  refine ⟨n + 1, fun l hl => ?_⟩
  obtain ⟨l, rfl⟩ : ∃ m, l = m + 1 := ⟨l - 1, by omega⟩
  exact hn l (by omega)

abbrev FM := List (Nat × AVal)

def lkp : FM → Nat → Option AVal
  | [], _ => none
  | (k, v) :: m, n => match Nat.beq k n with
    | true => some v
    | false => lkp m n

def lo (m : FM) : AOpd → Option AVal
  | .t n => lkp m n
  | .c v => some v

def los (m : FM) : List AOpd → Option (List AVal)
  | [] => some []
  | x :: xs => match lo m x, los m xs with
    | some v, some vs => some (v :: vs)
    | _, _ => none

def Fr (fr : List AVal) (m : FM) : Prop := ∀ n v, lkp m n = some v → get fr n = v
def Wk (m m0 : FM) : Prop := ∀ n v, lkp m0 n = some v → lkp m n = some v

theorem Wk.refl (m : FM) : Wk m m := fun _ _ h => h
theorem wk_nil {m : FM} : Wk m [] := fun _ _ h => by cases h
theorem wk_cons {m m0 : FM} {k : Nat} {v : AVal} (h : lkp m k = some v) (hr : Wk m m0) : Wk m ((k, v) :: m0) := by
  intro n u hu
  unfold lkp at hu
  split at hu
  · rename_i hb; cases hu; rw [← Nat.eq_of_beq_eq_true hb]; exact h
  · exact hr n u hu
theorem Fr.wk {fr : List AVal} {m m0 : FM} (h : Fr fr m) (hw : Wk m m0) : Fr fr m0 := fun n v hv => h n v (hw n v hv)

def putM (m : FM) : Option Nat → AVal → FM
  | some d, v => (d, v) :: m
  | none, _ => m

theorem Fr.put {fr : List AVal} {m : FM} (h : Fr fr m) (d : Nat) (v : AVal) : Fr (put fr d v) ((d, v) :: m) := by
  intro n u hu
  rw [get_put]
  unfold lkp at hu
  split at hu
  · rename_i hb; cases hu; rw [if_pos (Nat.eq_of_beq_eq_true hb).symm]
  · rename_i hb; rw [if_neg (fun e => by subst e; simp at hb)]; exact h n u hu

theorem Fr.putO {fr : List AVal} {m : FM} (h : Fr fr m) (d : Option Nat) (v : AVal) : Fr (putO fr d v) (putM m d v) := by
  cases d with
  | none => exact h
  | some d => exact h.put d v

theorem Fr.opd {fr : List AVal} {m : FM} (h : Fr fr m) {x : AOpd} {v : AVal} (hx : lo m x = some v) : opd fr x = v := by
  cases x with
  | t n => exact h n v hx
  | c u => simp only [lo] at hx; cases hx; rfl

theorem Fr.opds {fr : List AVal} {m : FM} (h : Fr fr m) : ∀ {xs : List AOpd} {vs : List AVal}, los m xs = some vs → xs.map (Eng.opd fr) = vs
  | [], _, hx => by simp only [los] at hx; cases hx; rfl
  | x :: xs, vs, hx => by
    simp only [los] at hx
    split at hx
    · rename_i v us h1 h2
      cases hx
      rw [List.map_cons, h.opd h1, h.opds h2]
    · cases hx

def gd (m : FM) : Option (Nat × Bool) → Option Bool
  | none => some true
  | some (t, want) => match lkp m t with
    | some (.bool b) => some (b == want)
    | some (.tuple []) => some false
    | _ => none

theorem Fr.gd {fr : List AVal} {m : FM} (h : Fr fr m) {g : Option (Nat × Bool)} {b : Bool} (hg : gd m g = some b) : wanted fr g = some b := by
  cases g with
  | none => exact hg
  | some tw =>
    obtain ⟨t, w⟩ := tw
    simp only [Eng.gd] at hg
    unfold wanted
    simp only
    split at hg
    · rename_i c hc; rw [h t _ hc]; exact hg
    · rename_i hc; rw [h t _ hc]; exact hg
    · cases hg

def initM : Nat → List AVal → FM
  | _, [] => []
  | k, v :: vs => (k, v) :: initM (k + 1) vs

theorem initM_get : ∀ (vs : List AVal) (k n : Nat) (v : AVal), lkp (initM k vs) n = some v → k ≤ n ∧ get vs (n - k) = v
  | [], _, _, _, h => by cases h
  | x :: vs, k, n, v, h => by
    unfold initM lkp at h
    split at h
    · rename_i hb
      cases h
      have := Nat.eq_of_beq_eq_true hb
      subst this
      exact ⟨Nat.le_refl _, by simp [get]⟩
    · rename_i hb
      obtain ⟨h1, h2⟩ := initM_get vs (k + 1) n v h
      refine ⟨by omega, ?_⟩
      obtain ⟨j, rfl⟩ : ∃ j, n = k + 1 + j := ⟨n - (k + 1), by omega⟩
      rw [show k + 1 + j - k = j + 1 by omega]
      rw [show k + 1 + j - (k + 1) = j by omega] at h2
      exact h2

theorem fr_init (vs : List AVal) : Fr vs (initM 0 vs) := fun n v h => by
  have := (initM_get vs 0 n v h).2
  simpa using this

section
variable {AP : AProg} {N : Nat}

def TL (AP : AProg) (N : Nat) (l : List AInstr) (m : FM) (S : Store) (K : FM → Store → Prop) : Prop :=
  ∀ fr, Fr fr m → ∃ fr' m' S', Fr fr' m' ∧ K m' S' ∧ Ev (fun n => stepL AP (exec AP n) N l ⟨fr, S⟩) ⟨fr', S'⟩

def TD (AP : AProg) (N : Nat) (l : List (AInstr × Nat)) (m : FM) (S : Store) (K : FM → Store → List FP → Prop) : Prop :=
  ∀ fr, Fr fr m → ∃ fr' m' S' fps, Fr fr' m' ∧ K m' S' fps ∧ Ev (fun n => drawL AP (exec AP n) N l ⟨fr, S⟩) (⟨fr', S'⟩, fps)

def TC (AP : AProg) (N : Nat) (c : ACode) (m : FM) (S : Store) (Q : AExit → FM → Store → Prop) : Prop :=
  ∀ fr, Fr fr m → ∃ ex fr' m' S', Fr fr' m' ∧ Q ex m' S' ∧ Ev (fun n => exec AP n N c ⟨fr, S⟩) (ex, ⟨fr', S'⟩)

def OpR (AP : AProg) (m : FM) (slot : Nat) (S : Store) (op : AOp) (v : AVal) (S' : Store) (fp : FP) : Prop :=
  ∀ fr, Fr fr m → ∃ e : Eff, Ev (fun n => (semX AP (exec AP n) slot (opd fr) op).run S) (e, fp.1) ∧ e.val = v ∧ effS slot e S = S' ∧ effIds slot e = fp.2

theorem TC.weaken {c : ACode} {m m0 : FM} {S : Store} {Q : AExit → FM → Store → Prop} (hw : Wk m m0) (h : TC AP N c m0 S Q) : TC AP N c m S Q := fun fr hfr => h fr (hfr.wk hw)
theorem TL.weaken {l : List AInstr} {m m0 : FM} {S : Store} {K : FM → Store → Prop} (hw : Wk m m0) (h : TL AP N l m0 S K) : TL AP N l m S K := fun fr hfr => h fr (hfr.wk hw)

theorem TC.mono {c : ACode} {m : FM} {S : Store} {Q Q' : AExit → FM → Store → Prop} (h : TC AP N c m S Q) (hq : ∀ ex m S, Q ex m S → Q' ex m S) : TC AP N c m S Q' := fun fr hfr => by
  obtain ⟨ex, fr', m', S', h1, h2, h3⟩ := h fr hfr
  exact ⟨ex, fr', m', S', h1, hq _ _ _ h2, h3⟩

theorem tc_skip {m : FM} {S : Store} {Q : AExit → FM → Store → Prop} (h : Q .normal m S) : TC AP N .skip m S Q := fun fr hfr =>
  ⟨_, fr, m, S, hfr, h, Ev.shift (Ev.const rfl)⟩
theorem tc_ret {m : FM} {S : Store} {Q : AExit → FM → Store → Prop} (h : Q .ret m S) : TC AP N .ret m S Q := fun fr hfr =>
  ⟨_, fr, m, S, hfr, h, Ev.shift (Ev.const rfl)⟩
theorem tc_exit {id : Nat} {m : FM} {S : Store} {Q : AExit → FM → Store → Prop} (h : Q (.exit id) m S) : TC AP N (.exit id) m S Q := fun fr hfr =>
  ⟨_, fr, m, S, hfr, h, Ev.shift (Ev.const rfl)⟩

theorem tc_ops {l : List AInstr} {m : FM} {S : Store} {Q : AExit → FM → Store → Prop} (h : TL AP N l m S (Q .normal)) : TC AP N (.ops l) m S Q := fun fr hfr => by
  obtain ⟨fr', m', S', h1, h2, h3⟩ := h fr hfr
  refine ⟨_, fr', m', S', h1, h2, Ev.shift (h3.map fun n hn => ?_)⟩
  simp only [exec, F, hn]

theorem tc_seq {a b : ACode} {m : FM} {S : Store} {Q : AExit → FM → Store → Prop} (h : TC AP N a m S fun ex m' S' => match ex with | .normal => TC AP N b m' S' Q | ex => Q ex m' S') : TC AP N (.seq a b) m S Q := fun fr hfr => by
  obtain ⟨ex, fr', m', S', h1, h2, h3⟩ := h fr hfr
  cases ex with
  | normal =>
    obtain ⟨ex, fr2, m2, S2, g1, g2, g3⟩ := h2 fr' h1
    refine ⟨ex, fr2, m2, S2, g1, g2, Ev.shift (h3.bind g3 fun n hn hm => ?_)⟩
    simp only [exec, F, hn, hm]
  | exit id =>
    refine ⟨_, fr', m', S', h1, h2, Ev.shift (h3.map fun n hn => ?_)⟩
    simp only [exec, F, hn]
  | ret =>
    refine ⟨_, fr', m', S', h1, h2, Ev.shift (h3.map fun n hn => ?_)⟩
    simp only [exec, F, hn]

theorem tc_cond {c : AOpd} {a b : ACode} {m : FM} {S : Store} {Q : AExit → FM → Store → Prop} {t : Bool} (hc : lo m c = some (.bool t)) (h1 : t = true → TC AP N a m S Q) (h2 : t = false → TC AP N b m S Q) : TC AP N (.cond c a b) m S Q := fun fr hfr => by
  have ho := hfr.opd hc
  cases t with
  | true =>
    obtain ⟨ex, fr', m', S', g1, g2, g3⟩ := h1 rfl fr hfr
    refine ⟨ex, fr', m', S', g1, g2, Ev.shift (g3.map fun n hn => ?_)⟩
    simp only [exec, F, ho, hn]
  | false =>
    obtain ⟨ex, fr', m', S', g1, g2, g3⟩ := h2 rfl fr hfr
    refine ⟨ex, fr', m', S', g1, g2, Ev.shift (g3.map fun n hn => ?_)⟩
    simp only [exec, F, ho, hn]

theorem tc_block {id : Nat} {a : ACode} {m : FM} {S : Store} {Q : AExit → FM → Store → Prop} (h : TC AP N a m S fun ex m' S' => match ex with | .exit j => if j = id then Q .normal m' S' else Q (.exit j) m' S' | ex => Q ex m' S') : TC AP N (.block id a) m S Q := fun fr hfr => by
  obtain ⟨ex, fr', m', S', h1, h2, h3⟩ := h fr hfr
  cases ex with
  | normal =>
    refine ⟨_, fr', m', S', h1, h2, Ev.shift (h3.map fun n hn => ?_)⟩
    simp only [exec, F, hn]
  | ret =>
    refine ⟨_, fr', m', S', h1, h2, Ev.shift (h3.map fun n hn => ?_)⟩
    simp only [exec, F, hn]
  | exit j =>
    simp only at h2
    by_cases hj : j = id
    · rw [if_pos hj] at h2
      refine ⟨_, fr', m', S', h1, h2, Ev.shift (h3.map fun n hn => ?_)⟩
      simp only [exec, F, hn, if_pos hj]
    · rw [if_neg hj] at h2
      refine ⟨_, fr', m', S', h1, h2, Ev.shift (h3.map fun n hn => ?_)⟩
      simp only [exec, F, hn, if_neg hj]

/-- a loop: a measure, and what holds ahead of each round -/
theorem tc_loop {c : ACode} {Q : AExit → FM → Store → Prop} {Inv : Nat → FM → Store → Prop}
    (hb : ∀ k m S, Inv k m S → TC AP N c m S fun ex m' S' => match ex with | .normal => ∃ k' m0, k' < k ∧ Wk m' m0 ∧ Inv k' m0 S' | ex => Q ex m' S') :
    ∀ k m S, Inv k m S → TC AP N (.loop c) m S Q := by
  intro k
  induction k using Nat.strongRecOn with
  | ind k ih =>
    intro m S hi fr hfr
    obtain ⟨ex, fr', m', S', h1, h2, h3⟩ := hb k m S hi fr hfr
    cases ex with
    | normal =>
      obtain ⟨k', m0, q1, q2, q3⟩ := h2
      obtain ⟨ex, fr2, m2, S2, g1, g2, g3⟩ := ih k' q1 m0 S' q3 fr' (h1.wk q2)
      refine ⟨ex, fr2, m2, S2, g1, g2, Ev.shift (h3.bind g3 fun n hn hm => ?_)⟩
      simp only [exec, F, hn, hm]
    | exit id =>
      refine ⟨_, fr', m', S', h1, h2, Ev.shift (h3.map fun n hn => ?_)⟩
      simp only [exec, F, hn]
    | ret =>
      refine ⟨_, fr', m', S', h1, h2, Ev.shift (h3.map fun n hn => ?_)⟩
      simp only [exec, F, hn]

theorem tl_nil {m : FM} {S : Store} {K : FM → Store → Prop} (h : K m S) : TL AP N [] m S K := fun fr hfr => ⟨fr, m, S, hfr, h, Ev.const rfl⟩

def isCallO : AOp → Bool
  | .call .. => true
  | _ => false

theorem shares_no {st : St} {o : AOp} (h : isCallO o = false) : shares AP st o = none := by
  cases o <;> first | rfl | simp [isCallO] at h

/-- one operation, in order, that is no call -/
theorem tl_op {d : Option Nat} {op : AOp} {g : Option (Nat × Bool)} {un : List Nat} {l : List AInstr} {m : FM} {S S' : Store} {v : AVal} {fp : FP} {K : FM → Store → Prop}
    (hd : (d.all fun d => d < N) = true) (hg : gd m g = some true) (hc : isCallO op = false)
    (h : if allocs op = true then OpR AP m S.length (S ++ [none]) op v S' fp else OpR AP m 0 S op v S' fp) (hk : TL AP N l (putM m d v) S' K) : TL AP N (⟨d, op, g, un⟩ :: l) m S K := fun fr hfr => by
  have hg' := hfr.gd hg
  obtain ⟨fr', m', S'', k1, k2, k3⟩ := hk _ (hfr.putO d v)
  refine ⟨fr', m', S'', k1, k2, ?_⟩
  cases ha : allocs op with
  | true =>
    rw [ha] at h
    simp only [if_true] at h
    obtain ⟨e, h1, rfl, rfl, h4⟩ := h fr hfr
    refine h1.bind k3 fun n hn hm => ?_
    simp only [stepL, step1, hg', shares_no hc, ha, if_true, dstep, hd, hn, hm]
  | false =>
    rw [ha] at h
    simp only [Bool.false_eq_true, if_false] at h
    obtain ⟨e, h1, rfl, rfl, h4⟩ := h fr hfr
    refine h1.bind k3 fun n hn hm => ?_
    simp only [stepL, step1, hg', shares_no hc, ha, Bool.false_eq_true, if_false, if_true, dstep, hd, hn, hm]

/-- one operation that isn't wanted -/
theorem tl_off {d : Option Nat} {op : AOp} {g : Option (Nat × Bool)} {un : List Nat} {l : List AInstr} {m : FM} {S : Store} {K : FM → Store → Prop}
    (hd : (d.all fun d => d < N) = true) (hg : gd m g = some false)
    (hk : TL AP N l (putM m d (.tuple [])) (if allocs op = true then S ++ [none] else S) K) : TL AP N (⟨d, op, g, un⟩ :: l) m S K := fun fr hfr => by
  have hg' := hfr.gd hg
  obtain ⟨fr', m', S'', k1, k2, k3⟩ := hk _ (hfr.putO d _)
  refine ⟨fr', m', S'', k1, k2, ?_⟩
  cases ha : allocs op with
  | true =>
    rw [ha] at k3
    simp only [if_true] at k3
    refine k3.map fun n hm => ?_
    simp only [stepL, step1, hg', ha, if_true, dstep, hd, hm]
  | false =>
    rw [ha] at k3
    simp only [Bool.false_eq_true, if_false] at k3
    refine k3.map fun n hm => ?_
    simp only [stepL, step1, hg', ha, Bool.false_eq_true, if_false, if_true, dstep, hd, hm]

/-- a call by itself -/
theorem tl_call {d : Option Nat} {fo : AOpd} {args : List AOpd} {f : Nat} {first cap as as' : List AVal} {g : Option (Nat × Bool)} {un : List Nat} {l : List AInstr} {m : FM} {S : Store} {r : AVal} {ids : List Nat} {K : FM → Store → Prop}
    (hd : (d.all fun d => d < N) = true) (hg : gd m g = some true) (hf : lo m fo = some (.fn (.func f) first cap)) (ha : los m args = some as) (hp : AP.prim f = none) (hke : AP.keep f = false)
    (hz : (RM.mapL (frz frzDepth) (first ++ as ++ cap)).run S = some (as', ids)) (hr : CallR AP f as' r) (hfl : (norefL (first ++ as ++ cap) || r.flat) = true)
    (hk : TL AP N l (putM m d r) (S ++ [none]) K) : TL AP N (⟨d, .call fo args, g, un⟩ :: l) m S K := fun fr hfr => by
  have hg' := hfr.gd hg
  obtain ⟨fr', m', S'', k1, k2, k3⟩ := hk _ (hfr.putO d r)
  refine ⟨fr', m', S'', k1, k2, ?_⟩
  have hr' : Ev (fun n => callI AP (exec AP n) f as') r := hr
  refine hr'.bind k3 fun n hn hm => ?_
  have hz' : (RM.mapL (frz frzDepth) (first ++ as ++ cap)).run (S ++ [none]) = some (as', ids) := by
    refine run_congr hz fun b hb => ?_
    have : ∀ {α : Type} (m : RM α) (S : Store) (a : α) (ids : List Nat), m.run S = some (a, ids) → ∀ b ∈ ids, b < S.length := by
      intro α m
      induction m with
      | ok a => intro S a ids h b hb; simp [RM.run] at h; rw [h.2] at hb; cases hb
      | fail => intro S a ids h; simp [RM.run] at h
      | rd c k ih =>
        intro S a ids h b hb
        obtain ⟨blk, l, g1, g2, g3⟩ := run_rd h
        simp only at g3 g2
        subst g3
        rcases List.mem_cons.1 hb with h4 | h4
        · subst h4; exact (List.getElem?_eq_some_iff.1 g1).1
        · exact ih blk S a l g2 b h4
    rw [List.getElem?_append_left (this _ _ _ _ hz b hb)]
  have hsem : (semX AP (exec AP n) S.length (opd fr) (.call fo args)).run (S ++ [none]) = some (⟨r, none, []⟩, ids) := by
    simp only [semX, hfr.opd hf, hfr.opds ha, semCall, hp, hke]
    have hb : ∀ {α β : Type} (m : RM α) (f : α → RM β) (S : Store) (a : α) (ids : List Nat) (y : β), m.run S = some (a, ids) → (f a).run S = some (y, []) → (m.bind f).run S = some (y, ids) := by
      intro α β m
      induction m with
      | ok a => intro f S b ids y h hy; simp [RM.run] at h; obtain ⟨rfl, rfl⟩ := h; exact hy
      | fail => intro f S a ids y h; simp [RM.run] at h
      | rd c k ih =>
        intro f S a ids y h hy
        obtain ⟨blk, l, g1, g2, g3⟩ := run_rd h
        simp only at g3 g2
        subst g3
        simp only [RM.bind, RM.run, g1, ih blk f S a l y g2 hy]
    simp only [Bool.false_eq_true, if_false]
    refine hb _ _ _ _ _ _ hz' ?_
    simp only [hn, hfl, if_true, RM.run]
  have hsh : shares AP ⟨fr, S⟩ (.call fo args) = none := by
    simp only [shares, fvOf, hfr.opd hf, hfr.opds ha, hp, hke, Bool.false_eq_true, if_false, hz]
  simp only [stepL, step1, hg', hsh, allocs, if_true, dstep, hd, hsem, effS, applyWr, hm]

theorem td_nil {m : FM} {S : Store} {K : FM → Store → List FP → Prop} (h : K m S []) : TD AP N [] m S K := fun fr hfr => ⟨fr, m, S, [], hfr, h, Ev.const rfl⟩

theorem td_op {d : Option Nat} {op : AOp} {g : Option (Nat × Bool)} {un : List Nat} {slot : Nat} {l : List (AInstr × Nat)} {m : FM} {S S' : Store} {v : AVal} {fp : FP} {K : FM → Store → List FP → Prop}
    (hd : (d.all fun d => d < N) = true) (hg : gd m g = some true) (h : OpR AP m slot S op v S' fp) (hk : TD AP N l (putM m d v) S' fun m S fps => K m S (fp :: fps)) : TD AP N ((⟨d, op, g, un⟩, slot) :: l) m S K := fun fr hfr => by
  have hg' := hfr.gd hg
  obtain ⟨rds, ws⟩ := fp
  obtain ⟨fr', m', S'', fps, k1, k2, k3⟩ := hk _ (hfr.putO d v)
  refine ⟨fr', m', S'', _, k1, k2, ?_⟩
  obtain ⟨e, h1, rfl, rfl, h4⟩ := h fr hfr
  simp only at h4 h1
  subst h4
  refine h1.bind k3 fun n hn hm => ?_
  simp only [drawL, hg', if_true, dstep, hd, hn, hm, effIds]

theorem td_off {d : Option Nat} {op : AOp} {g : Option (Nat × Bool)} {un : List Nat} {slot : Nat} {l : List (AInstr × Nat)} {m : FM} {S : Store} {K : FM → Store → List FP → Prop}
    (hd : (d.all fun d => d < N) = true) (hg : gd m g = some false) (hk : TD AP N l (putM m d (.tuple [])) S fun m S fps => K m S (([], []) :: fps)) : TD AP N ((⟨d, op, g, un⟩, slot) :: l) m S K := fun fr hfr => by
  have hg' := hfr.gd hg
  obtain ⟨fr', m', S'', fps, k1, k2, k3⟩ := hk _ (hfr.putO d _)
  refine ⟨fr', m', S'', _, k1, k2, ?_⟩
  refine k3.map fun n hm => ?_
  simp only [drawL, hg', if_true, dstep, hd, hm]

theorem tc_draw {l : List AInstr} {m : FM} {S : Store} {Q : AExit → FM → Store → Prop}
    (h : TD AP N (l.zip (slots (S.length + nslots l) S.length l)) m (S ++ List.replicate (nslots l) none) fun m' S' fps => drawOk fps l fps = true ∧ Q .normal m' S') : TC AP N (.draw l) m S Q := fun fr hfr => by
  obtain ⟨fr', m', S', fps, h1, ⟨h2, h2'⟩, h3⟩ := h fr hfr
  refine ⟨_, fr', m', S', h1, h2', Ev.shift (h3.map fun n hn => ?_)⟩
  simp only [exec, F, hn, h2, if_true]

def loRes (m : FM) (S : Store) : ARes → Option AVal
  | .tmp t => lkp m t
  | .cell t g sz => match lkp m t with
    | some a => match ((sem 0 (fun _ => a) (.load g sz (.t t))).run S) with
      | some (e, _) => some e.val
      | none => none
    | none => none

def loResL (m : FM) (S : Store) : List ARes → Option (List AVal)
  | [] => some []
  | r :: rs => match loRes m S r, loResL m S rs with
    | some v, some vs => some (v :: vs)
    | _, _ => none

theorem Fr.res {fr : List AVal} {m : FM} {S : Store} (h : Fr fr m) {r : ARes} {v : AVal} (hr : loRes m S r = some v) : ares ⟨fr, S⟩ r = some v := by
  cases r with
  | tmp t => simp only [loRes] at hr; simp only [ares, h t v hr]
  | cell t g sz =>
    simp only [loRes] at hr
    split at hr
    · rename_i a ha
      simp only [ares]
      have h1 : Eng.opd fr (.t t) = a := h t a ha
      simp only [sem] at hr ⊢
      rw [h1]
      exact hr
    · cases hr

theorem Fr.resL {fr : List AVal} {m : FM} {S : Store} (h : Fr fr m) : ∀ {rs : List ARes} {vs : List AVal}, loResL m S rs = some vs → aresL ⟨fr, S⟩ rs = some vs
  | [], _, hr => hr
  | r :: rs, vs, hr => by
    simp only [loResL] at hr
    split at hr
    · rename_i v us h1 h2
      cases hr
      simp only [aresL, h.res h1, h.resL h2]
    · cases hr

/-- what a function answers -/
theorem callR_of {f : Nat} {af : AFunc} {args : List AVal} {r : AVal} (hf : AP.fn f = some af) (hn : args.length = af.nargs)
    (h : TC AP (max af.nargs af.N) af.body (initM 0 args) [] fun ex m S => (ex = .normal ∨ ex = .ret) ∧ ∃ vs ids, loResL m S af.res = some vs ∧ (frz frzDepth (one vs)).run S = some (r, ids)) : CallR AP f args r := by
  obtain ⟨ex, fr', m', S', h1, ⟨h2, vs, ids, h3, h4⟩, h5⟩ := h args (fr_init args)
  refine h5.map fun n hn' => ?_
  have hfin : finish af (ex, ⟨fr', S'⟩) = some (one vs, S') := by
    rcases h2 with rfl | rfl <;> simp only [finish, h1.resL h3]
  simp only [callI, callS, hf, hn, if_true, hn', hfin, h4]

end
end Go.Eng

/- What each operation does, by a frame known in part. -/
namespace Go.Eng
open Go

section
variable {AP : AProg} {m : FM} {slot : Nat} {S : Store} {N : Nat}

theorem opr_v {op : AOp} {v : AVal} (h : ∀ fr, Fr fr m → ∀ n, (semX AP (exec AP n) slot (opd fr) op).run S = some (⟨v, none, []⟩, [])) : OpR AP m slot S op v S ([], []) :=
  fun fr hfr => ⟨⟨v, none, []⟩, ⟨0, fun n _ => h fr hfr n⟩, rfl, rfl, rfl⟩
theorem opr_r {op : AOp} {v : AVal} {b : Nat} (h : ∀ fr, Fr fr m → ∀ n, (semX AP (exec AP n) slot (opd fr) op).run S = some (⟨v, none, []⟩, [b])) : OpR AP m slot S op v S ([b], []) :=
  fun fr hfr => ⟨⟨v, none, []⟩, ⟨0, fun n _ => h fr hfr n⟩, rfl, rfl, rfl⟩
theorem opr_n {op : AOp} {v : AVal} {blk : ABlock} (h : ∀ fr, Fr fr m → ∀ n, (semX AP (exec AP n) slot (opd fr) op).run S = some (⟨v, some blk, []⟩, [])) : OpR AP m slot S op v (S.set slot (some blk)) ([], [slot]) :=
  fun fr hfr => ⟨⟨v, some blk, []⟩, ⟨0, fun n _ => h fr hfr n⟩, rfl, rfl, rfl⟩
theorem opr_w {op : AOp} {v : AVal} {b : Nat} {x : Option ABlock} (h : ∀ fr, Fr fr m → ∀ n, (semX AP (exec AP n) slot (opd fr) op).run S = some (⟨v, none, [(b, x)]⟩, [b])) : OpR AP m slot S op v (S.set b x) ([b], [b]) :=
  fun fr hfr => ⟨⟨v, none, [(b, x)]⟩, ⟨0, fun n _ => h fr hfr n⟩, rfl, rfl, rfl⟩

theorem o_move {x : AOpd} {v : AVal} (h : lo m x = some v) : OpR AP m slot S (.move x) v S ([], []) :=
  opr_v fun fr hfr n => by simp only [semX, sem, hfr.opd h, RM.run]
theorem o_pick {c a b : AOpd} {t : Bool} {va vb : AVal} (hc : lo m c = some (.bool t)) (ha : lo m a = some va) (hb : lo m b = some vb) : OpR AP m slot S (.pick c a b) (if t then va else vb) S ([], []) :=
  opr_v fun fr hfr n => by simp only [semX, sem, hfr.opd hc, hfr.opd ha, hfr.opd hb, RM.run]
theorem o_alloc {row : List AVal} : OpR AP m slot S (.alloc row) (.ptr slot 0 0) (S.set slot (some ⟨row.length, [row]⟩)) ([], [slot]) :=
  opr_n fun fr hfr n => by simp only [semX, sem, RM.run]
theorem o_box {sz : Nat} {x : AOpd} {v : AVal} {cs : List AVal} (h : lo m x = some v) (h1 : hasCells v = true) (h2 : acells v = cs) (h3 : cs.length = sz) : OpR AP m slot S (.box sz x) (.ptr slot 0 0) (S.set slot (some ⟨sz, [cs]⟩)) ([], [slot]) :=
  opr_n fun fr hfr n => by simp only [semX, sem, hfr.opd h, h1, h2, h3, and_self, if_true, RM.run]

def lop {β : Type} (m : FM) : List (β × AOpd) → Option (List (β × AVal))
  | [] => some []
  | (p, x) :: xs => match lo m x, lop m xs with
    | some v, some vs => some ((p, v) :: vs)
    | _, _ => none

theorem Fr.opp {β : Type} {fr : List AVal} {m : FM} (h : Fr fr m) : ∀ {xs : List (β × AOpd)} {vs : List (β × AVal)}, lop m xs = some vs → (xs.map fun p => (p.1, Eng.opd fr p.2)) = vs
  | [], _, hx => by simp only [lop] at hx; cases hx; rfl
  | (p, x) :: xs, vs, hx => by
    simp only [lop] at hx
    split at hx
    · rename_i v us h1 h2
      cases hx
      rw [List.map_cons, h.opp h2, h.opd h1]
    · cases hx

theorem o_build {zero cs : List AVal} {ps : List ((Nat × Nat) × AOpd)} {vs : List ((Nat × Nat) × AVal)} (h : lop m ps = some vs) (h1 : fillCells zero vs = some cs) : OpR AP m slot S (.build zero ps) (.agg cs) S ([], []) :=
  opr_v fun fr hfr n => by simp only [semX, sem, hfr.opp h, h1, Option.map_some, Eff.o, RM.run]
theorem o_buildSlice {zero : List AVal} {sz len : Nat} {ps : List (Nat × AOpd)} {vs : List (Nat × AVal)} {rows : List (List AVal)} (h : lop m ps = some vs) (h1 : fillRows sz (List.replicate len zero) vs = some rows) : OpR AP m slot S (.buildSlice zero sz len ps) (.lim rows) S ([], []) :=
  opr_v fun fr hfr n => by simp only [semX, sem, hfr.opp h, h1, Option.map_some, Eff.o, RM.run]
theorem o_load {g : Bool} {sz b i f : Nat} {a : AOpd} {blk : ABlock} {r : List AVal} {v : AVal} (h : lo m a = some (.ptr b i f)) (h1 : S[b]? = some (some blk)) (h2 : blk.rows[i]? = some r) (h3 : f + sz ≤ r.length) (h4 : aextr g sz (r.drop f) = some v) :
    OpR AP m slot S (.load g sz a) v S ([b], []) :=
  opr_r fun fr hfr n => by simp only [semX, sem, hfr.opd h, RM.run, h1, h2, h3, h4, if_true, Eff.o]
theorem o_loadr {g : Bool} {sz : Nat} {a : AOpd} {cs : List AVal} {v : AVal} (h : lo m a = some (.rptr cs)) (h3 : sz ≤ cs.length) (h4 : aextr g sz cs = some v) :
    OpR AP m slot S (.load g sz a) v S ([], []) :=
  opr_v fun fr hfr n => by simp only [semX, sem, hfr.opd h, RM.run, h3, h4, if_true, Eff.o]
theorem o_store {sz b i f : Nat} {a x : AOpd} {blk : ABlock} {r cs : List AVal} {v : AVal} (h : lo m a = some (.ptr b i f)) (hx : lo m x = some v) (h1 : S[b]? = some (some blk)) (h2 : blk.rows[i]? = some r) (hv : hasCells v = true) (hc : acells v = cs)
    (h3 : cs.length = sz) (h4 : f + sz ≤ r.length) (h5 : cs.all storable = true) : OpR AP m slot S (.store sz a x) (.tuple []) (S.set b (some ⟨blk.sz, blk.rows.set i (r.take f ++ cs ++ r.drop (f + sz))⟩)) ([b], [b]) :=
  opr_w fun fr hfr n => by simp only [semX, sem, hfr.opd h, hfr.opd hx, RM.run, h1, h2, hv, hc, h3, h4, h5, and_self, if_true]
theorem o_bin {op : BinOp} {x y : AOpd} {vx vy v : AVal} (hx : lo m x = some vx) (hy : lo m y = some vy) (h : abin op vx vy = some v) : OpR AP m slot S (.bin op x y) v S ([], []) :=
  opr_v fun fr hfr n => by simp only [semX, sem, hfr.opd hx, hfr.opd hy, h, Eff.o, RM.run]
theorem o_isNil_t {x : AOpd} {neg : Bool} (hx : lo m x = some .nils) : OpR AP m slot S (.isNil .slice neg x) (.bool (!neg)) S ([], []) :=
  opr_v fun fr hfr n => by cases neg <;> simp [semX, sem, hfr.opd hx, anil, RM.bind, RM.run]
theorem o_isNil_f {x : AOpd} {neg : Bool} {r : List AVal} {rs : List (List AVal)} (hx : lo m x = some (.imm (r :: rs))) : OpR AP m slot S (.isNil .slice neg x) (.bool neg) S ([], []) :=
  opr_v fun fr hfr n => by cases neg <;> simp [semX, sem, hfr.opd hx, anil, RM.bind, RM.run]
theorem o_isNil_e {x : AOpd} {neg : Bool} (hx : lo m x = some .enil) : OpR AP m slot S (.isNil .slice neg x) (.bool neg) S ([], []) :=
  opr_v fun fr hfr n => by cases neg <;> simp [semX, sem, hfr.opd hx, anil, RM.bind, RM.run]
theorem o_un {op : UnOp} {x : AOpd} {vx v : AVal} (hx : lo m x = some vx) (h : aun op vx = some v) : OpR AP m slot S (.un op x) v S ([], []) :=
  opr_v fun fr hfr n => by simp only [semX, sem, hfr.opd hx, h, Eff.o, RM.run]
theorem o_conv {k k' : IntKind} {n : Int} {x : AOpd} (hx : lo m x = some (.int k' n)) : OpR AP m slot S (.conv (.int k) x) (.int k (k.wrap n)) S ([], []) :=
  opr_v fun fr hfr n => by simp only [semX, sem, hfr.opd hx, Eff.o, RM.run]
theorem o_len_imm {x : AOpd} {rows : List (List AVal)} (hx : lo m x = some (.imm rows)) : OpR AP m slot S (.len false x) (.int .i64 rows.length) S ([], []) :=
  opr_v fun fr hfr n => by simp only [semX, sem, hfr.opd hx, RM.run]
theorem o_len_lim {x : AOpd} {rows : List (List AVal)} (hx : lo m x = some (.lim rows)) : OpR AP m slot S (.len false x) (.int .i64 rows.length) S ([], []) :=
  opr_v fun fr hfr n => by simp only [semX, sem, hfr.opd hx, RM.run]
theorem o_len_nils {x : AOpd} (hx : lo m x = some .nils) : OpR AP m slot S (.len false x) (.int .i64 0) S ([], []) :=
  opr_v fun fr hfr n => by simp only [semX, sem, hfr.opd hx, RM.run]
theorem o_len_view {x : AOpd} {b off len : Nat} {full : Bool} (hx : lo m x = some (.view b off len full)) : OpR AP m slot S (.len false x) (.int .i64 len) S ([], []) :=
  opr_v fun fr hfr n => by simp only [semX, sem, hfr.opd hx, RM.run]
theorem o_len_str {x : AOpd} {s : List UInt8} (hx : lo m x = some (.str s)) : OpR AP m slot S (.len true x) (.int .i64 s.length) S ([], []) :=
  opr_v fun fr hfr n => by simp only [semX, sem, hfr.opd hx, RM.run]
theorem o_faddr {off b i f : Nat} {x : AOpd} (hx : lo m x = some (.ptr b i f)) : OpR AP m slot S (.faddr off x) (.ptr b i (f + off)) S ([], []) :=
  opr_v fun fr hfr n => by simp only [semX, sem, hfr.opd hx, RM.run]
theorem o_faddrr {off : Nat} {cs : List AVal} {x : AOpd} (hx : lo m x = some (.rptr cs)) : OpR AP m slot S (.faddr off x) (.rptr (cs.drop off)) S ([], []) :=
  opr_v fun fr hfr n => by simp only [semX, sem, hfr.opd hx, RM.run]
theorem o_field {g : Bool} {sz off : Nat} {x : AOpd} {cs : List AVal} {v : AVal} (hx : lo m x = some (.agg cs)) (h1 : off + sz ≤ cs.length) (h2 : aextr g sz (cs.drop off) = some v) : OpR AP m slot S (.field g sz off x) v S ([], []) :=
  opr_v fun fr hfr n => by simp only [semX, sem, hfr.opd hx, h1, h2, if_true, Eff.o, RM.run]
theorem o_iaddr {sz : Nat} {x i : AOpd} {k : IntKind} {n : Nat} {rows : List (List AVal)} {r : List AVal} (hx : lo m x = some (.imm rows)) (hi : lo m i = some (.int k n)) (hr : rows[n]? = some r) (hl : r.length = sz) : OpR AP m slot S (.iaddr sz x i) (.rptr r) S ([], []) :=
  opr_v fun fr hfr f => by simp [semX, sem, hfr.opd hx, hfr.opd hi, aint, hr, hl, RM.run]
theorem o_iaddr_lim {sz : Nat} {x i : AOpd} {k : IntKind} {n : Nat} {rows : List (List AVal)} {r : List AVal} (hx : lo m x = some (.lim rows)) (hi : lo m i = some (.int k n)) (hr : rows[n]? = some r) (hl : r.length = sz) : OpR AP m slot S (.iaddr sz x i) (.rptr r) S ([], []) :=
  opr_v fun fr hfr f => by simp [semX, sem, hfr.opd hx, hfr.opd hi, aint, hr, hl, RM.run]
theorem o_iaddr_view {sz b off len : Nat} {full : Bool} {x i : AOpd} {k : IntKind} {n : Nat} {blk : ABlock} (hx : lo m x = some (.view b off len full)) (hi : lo m i = some (.int k n)) (hn : n < len) (h1 : S[b]? = some (some blk)) (h2 : blk.sz = sz) :
    OpR AP m slot S (.iaddr sz x i) (.ptr b (off + n) 0) S ([b], []) :=
  opr_r fun fr hfr f => by
    have : (n : Int) < (len : Int) := by omega
    simp [semX, sem, hfr.opd hx, hfr.opd hi, aint, this, h1, h2, RM.run]
theorem o_extract {x : AOpd} {i : Nat} {vs : List AVal} {v : AVal} (hx : lo m x = some (.tuple vs)) (h : vs[i]? = some v) : OpR AP m slot S (.extract x i) v S ([], []) :=
  opr_v fun fr hfr n => by simp only [semX, sem, hfr.opd hx, h, Eff.o, RM.run]
theorem o_maxI {xs : List AOpd} {vs : List AVal} {v : AVal} (h : los m xs = some vs) (h1 : aext (fun a b => if b > a then b else a) vs = some v) : OpR AP m slot S (.maxI xs) v S ([], []) :=
  opr_v fun fr hfr n => by simp only [semX, sem, hfr.opds h, h1, Eff.o, RM.run]
theorem o_minI {xs : List AOpd} {vs : List AVal} {v : AVal} (h : los m xs = some vs) (h1 : aext (fun a b => if b < a then b else a) vs = some v) : OpR AP m slot S (.minI xs) v S ([], []) :=
  opr_v fun fr hfr n => by simp only [semX, sem, hfr.opds h, h1, Eff.o, RM.run]
theorem o_eqAgg {neg : Bool} {ls : List (Option Leaf)} {x y : AOpd} {xs ys : List AVal} {b : Bool} (hx : lo m x = some (.agg xs)) (hy : lo m y = some (.agg ys)) (h : aeqL ls xs ys = some b) : OpR AP m slot S (.eqAgg neg ls x y) (.bool (if neg then !b else b)) S ([], []) :=
  opr_v fun fr hfr n => by simp only [semX, sem, hfr.opd hx, hfr.opd hy, aeqAgg, h, Option.map_some, Eff.o, RM.run]
theorem o_eqB {neg : Bool} {x y : AOpd} {a b : Bool} (hx : lo m x = some (.bool a)) (hy : lo m y = some (.bool b)) : OpR AP m slot S (.eqB neg x y) (.bool (if neg then !(a == b) else a == b)) S ([], []) :=
  opr_v fun fr hfr n => by simp only [semX, sem, hfr.opd hx, hfr.opd hy, RM.run]

/-- any operation on values, by computing it -/
theorem o_any {op : AOp} {v : AVal} (hu : ((usesO op).all fun t => (lkp m t).isSome) = true) (hc : isCallO op = false) {fr0 : List AVal} (h0 : ∀ t ∈ usesO op, some (get fr0 t) = lkp m t)
    (h : (sem slot (opd fr0) op).run S = some (⟨v, none, []⟩, [])) : OpR AP m slot S op v S ([], []) :=
  opr_v fun fr hfr n => by
    have hs : semX AP (exec AP n) slot (opd fr) op = semX AP (exec AP n) slot (opd fr0) op := semX_congr fun t ht => by
      have := h0 t ht
      exact hfr t _ this.symm
    rw [hs]
    cases op <;> first | exact h | simp [isCallO] at hc

/-! slices -/

theorem o_append_nils {sz bytes : Nat} {x y : AOpd} {rows : List (List AVal)} {vy : AVal} (hx : lo m x = some .nils) (hy : lo m y = some vy) (hr : rowsOf sz vy = .ok rows) (hne : rows ≠ []) (hb : rows.length * bytes ≤ 17592186044416) :
    OpR AP m slot S (.append sz bytes x y) (.view slot 0 rows.length false) (S.set slot (some ⟨sz, rows⟩)) ([], [slot]) :=
  opr_n fun fr hfr n => by
    cases rows with
    | nil => exact absurd rfl hne
    | cons r rs => simp only [semX, sem, hfr.opd hx, hfr.opd hy, hr, RM.bind, appendTo, hb, if_true, RM.run]
theorem o_append_lim {sz bytes : Nat} {x y : AOpd} {rows0 rows : List (List AVal)} {vy : AVal} (hx : lo m x = some (.lim rows0)) (hy : lo m y = some vy) (hr : rowsOf sz vy = .ok rows) (hne : rows ≠ []) (hb : (rows0.length + rows.length) * bytes ≤ 17592186044416) (h0 : rowOk sz rows0.head? = true) :
    OpR AP m slot S (.append sz bytes x y) (.view slot 0 (rows0.length + rows.length) false) (S.set slot (some ⟨sz, rows0 ++ rows⟩)) ([], [slot]) :=
  opr_n fun fr hfr n => by
    cases rows with
    | nil => exact absurd rfl hne
    | cons r rs => simp only [semX, sem, hfr.opd hx, hfr.opd hy, hr, RM.bind, appendTo, hb, h0, and_self, if_true, RM.run]
theorem o_append_none {sz bytes : Nat} {x y : AOpd} {vx vy : AVal} (hx : lo m x = some vx) (hy : lo m y = some vy) (hr : rowsOf sz vy = .ok []) (hv : appendTo sz bytes slot vx [] = .ok ⟨vx, none, []⟩) :
    OpR AP m slot S (.append sz bytes x y) vx S ([], []) :=
  opr_v fun fr hfr n => by simp only [semX, sem, hfr.opd hx, hfr.opd hy, hr, RM.bind, hv, RM.run]
/-- to the whole of a block: it moves on -/
theorem o_append_view {sz bytes b len : Nat} {x y : AOpd} {rows0 rows : List (List AVal)} {vy : AVal} (hx : lo m x = some (.view b 0 len false)) (hy : lo m y = some vy) (hr : rowsOf sz vy = .ok rows) (hne : rows ≠ []) (h1 : S[b]? = some (some ⟨sz, rows0⟩)) (hl : rows0.length = len)
    (hb : (len + rows.length) * bytes ≤ 17592186044416) (hst : (rows.all fun r => r.all storable) = true) :
    OpR AP m slot S (.append sz bytes x y) (.view slot 0 (len + rows.length) false) ((S.set b none).set slot (some ⟨sz, rows0 ++ rows⟩)) ([b], [b, slot]) := fun fr hfr =>
  ⟨⟨.view slot 0 (len + rows.length) false, some ⟨sz, rows0 ++ rows⟩, [(b, none)]⟩, ⟨0, fun n _ => by
    cases rows with
    | nil => exact absurd rfl hne
    | cons r rs =>
      simp only [semX, sem, hfr.opd hx, hfr.opd hy, hr, RM.bind, appendTo, RM.run, h1, Nat.zero_add, hl, Nat.le_refl, hb, hst, and_self, if_true, List.drop_zero, Bool.false_eq_true, if_false]⟩, rfl, rfl, rfl⟩

end

theorem wrap64 {n : Int} (h1 : -9223372036854775808 ≤ n) (h2 : n < 9223372036854775808) : IntKind.i64.wrap n = n := by
  simp [IntKind.wrap, IntKind.bits, IntKind.signed]; omega
theorem wrapu64 {n : Int} (h1 : 0 ≤ n) (h2 : n < 18446744073709551616) : IntKind.u64.wrap n = n := by
  simp [IntKind.wrap, IntKind.bits, IntKind.signed]; omega
theorem wrapu32 {n : Int} (h1 : 0 ≤ n) (h2 : n < 4294967296) : IntKind.u32.wrap n = n := by
  simp [IntKind.wrap, IntKind.bits, IntKind.signed]; omega

section
variable {AP : AProg} {m : FM} {slot : Nat} {S : Store} {N : Nat}

theorem o_add {x y : AOpd} {a b c : Int} (hx : lo m x = some (.int .i64 a)) (hy : lo m y = some (.int .i64 b)) (hc : a + b = c) (h1 : -9223372036854775808 ≤ c) (h2 : c < 9223372036854775808) : OpR AP m slot S (.bin .add x y) (.int .i64 c) S ([], []) :=
  o_bin hx hy (by subst hc; simp only [abin, isShift, Bool.false_eq_true, if_false, if_true, aintop, wrap64 h1 h2])
theorem o_sub {x y : AOpd} {a b c : Int} (hx : lo m x = some (.int .i64 a)) (hy : lo m y = some (.int .i64 b)) (hc : a - b = c) (h1 : -9223372036854775808 ≤ c) (h2 : c < 9223372036854775808) : OpR AP m slot S (.bin .sub x y) (.int .i64 c) S ([], []) :=
  o_bin hx hy (by subst hc; simp only [abin, isShift, Bool.false_eq_true, if_false, if_true, aintop, wrap64 h1 h2])
theorem o_lss {x y : AOpd} {k : IntKind} {a b : Int} (hx : lo m x = some (.int k a)) (hy : lo m y = some (.int k b)) : OpR AP m slot S (.bin .lss x y) (.bool (decide (a < b))) S ([], []) :=
  o_bin hx hy (by simp only [abin, isShift, Bool.false_eq_true, if_false, if_true, aintop])
theorem o_leq {x y : AOpd} {k : IntKind} {a b : Int} (hx : lo m x = some (.int k a)) (hy : lo m y = some (.int k b)) : OpR AP m slot S (.bin .leq x y) (.bool (decide (a ≤ b))) S ([], []) :=
  o_bin hx hy (by simp only [abin, isShift, Bool.false_eq_true, if_false, if_true, aintop])
theorem o_gtr {x y : AOpd} {k : IntKind} {a b : Int} (hx : lo m x = some (.int k a)) (hy : lo m y = some (.int k b)) : OpR AP m slot S (.bin .gtr x y) (.bool (decide (a > b))) S ([], []) :=
  o_bin hx hy (by simp only [abin, isShift, Bool.false_eq_true, if_false, if_true, aintop])
theorem o_geq {x y : AOpd} {k : IntKind} {a b : Int} (hx : lo m x = some (.int k a)) (hy : lo m y = some (.int k b)) : OpR AP m slot S (.bin .geq x y) (.bool (decide (a ≥ b))) S ([], []) :=
  o_bin hx hy (by simp only [abin, isShift, Bool.false_eq_true, if_false, if_true, aintop])
theorem o_eql {x y : AOpd} {k : IntKind} {a b : Int} (hx : lo m x = some (.int k a)) (hy : lo m y = some (.int k b)) : OpR AP m slot S (.bin .eql x y) (.bool (a == b)) S ([], []) :=
  o_bin hx hy (by simp only [abin, isShift, Bool.false_eq_true, if_false, if_true, aintop])
theorem o_neq {x y : AOpd} {k : IntKind} {a b : Int} (hx : lo m x = some (.int k a)) (hy : lo m y = some (.int k b)) : OpR AP m slot S (.bin .neq x y) (.bool (a != b)) S ([], []) :=
  o_bin hx hy (by simp only [abin, isShift, Bool.false_eq_true, if_false, if_true, aintop])

theorem tl_opn {d : Option Nat} {op : AOp} {g : Option (Nat × Bool)} {un : List Nat} {l : List AInstr} {m : FM} {S S' : Store} {v : AVal} {fp : FP} {K : FM → Store → Prop}
    (h : OpR AP m S.length (S ++ [none]) op v S' fp) (ha : allocs op = true) (hd : (d.all fun d => d < N) = true) (hg : gd m g = some true) (hc : isCallO op = false)
    (hk : TL AP N l (putM m d v) S' K) : TL AP N (⟨d, op, g, un⟩ :: l) m S K := tl_op hd hg hc (by rw [if_pos ha]; exact h) hk
theorem tl_opo {d : Option Nat} {op : AOp} {g : Option (Nat × Bool)} {un : List Nat} {l : List AInstr} {m : FM} {S S' : Store} {v : AVal} {fp : FP} {K : FM → Store → Prop}
    (h : OpR AP m 0 S op v S' fp) (ha : allocs op = false) (hd : (d.all fun d => d < N) = true) (hg : gd m g = some true) (hc : isCallO op = false)
    (hk : TL AP N l (putM m d v) S' K) : TL AP N (⟨d, op, g, un⟩ :: l) m S K := tl_op hd hg hc (by rw [ha]; exact h) hk

end


theorem tl_off0 {AP : AProg} {N : Nat} {d : Option Nat} {op : AOp} {g : Option (Nat × Bool)} {un : List Nat} {l : List AInstr} {m : FM} {S : Store} {K : FM → Store → Prop}
    (ha : allocs op = false) (hd : (d.all fun d => d < N) = true) (hg : gd m g = some false) (hk : TL AP N l (putM m d (.tuple [])) S K) : TL AP N (⟨d, op, g, un⟩ :: l) m S K := tl_off hd hg (by rw [ha]; exact hk)
theorem tl_off1 {AP : AProg} {N : Nat} {d : Option Nat} {op : AOp} {g : Option (Nat × Bool)} {un : List Nat} {l : List AInstr} {m : FM} {S : Store} {K : FM → Store → Prop}
    (ha : allocs op = true) (hd : (d.all fun d => d < N) = true) (hg : gd m g = some false) (hk : TL AP N l (putM m d (.tuple [])) (S ++ [none]) K) : TL AP N (⟨d, op, g, un⟩ :: l) m S K := tl_off hd hg (by rw [if_pos ha]; exact hk)

end Go.Eng

/- Freezing, cutting, loops over a slice: more rules. -/
namespace Go.Eng
open Go

theorem frz_closed : ∀ (n : Nat) (v : AVal), v.closed = true → frz n v = .ok v
  | 0, v, h => by
    have : frz 0 v = if v.closed then .ok v else .fail := by cases v <;> rfl
    rw [this, if_pos h]
  | n + 1, v, h => by rw [frz.eq_def]; simp only; rw [if_pos h]

theorem mapL_frz (n : Nat) : ∀ (vs : List AVal), closedL vs = true → RM.mapL (frz n) vs = .ok vs
  | [], _ => rfl
  | v :: vs, h => by
    simp only [closedL, Bool.and_eq_true] at h
    simp only [RM.mapL, frz_closed n v h.1, RM.bind, mapL_frz n vs h.2]

theorem mapLL_frz (n : Nat) : ∀ (vs : List (List AVal)), closedLL vs = true → RM.mapL (RM.mapL (frz n)) vs = .ok vs
  | [], _ => rfl
  | v :: vs, h => by
    simp only [closedLL, Bool.and_eq_true] at h
    simp only [RM.mapL, mapL_frz n v h.1, RM.bind, mapLL_frz n vs h.2]

theorem frz_view {n b off len : Nat} {full : Bool} {S : Store} {blk : ABlock} {rows : List (List AVal)} (h1 : S[b]? = some (some blk)) (h2 : off + len ≤ blk.rows.length) (h3 : (blk.rows.drop off).take len = rows) (h4 : closedLL rows = true) :
    (frz (n + 1) (.view b off len full)).run S = some (.imm rows, [b]) := by
  simp only [frz, AVal.closed, Bool.false_eq_true, if_false, RM.run, h1, h2, if_true, h3, mapLL_frz n rows h4, RM.bind]

theorem frz_nils {n : Nat} {S : Store} : (frz (n + 1) .nils).run S = some (.imm [], []) := by
  simp only [frz, AVal.closed, Bool.false_eq_true, if_false, RM.mapL, RM.bind, RM.run]
theorem frz_lim {n : Nat} {S : Store} {rows : List (List AVal)} (h : closedLL rows = true) : (frz (n + 1) (.lim rows)).run S = some (.imm rows, []) := by
  simp only [frz, AVal.closed, Bool.false_eq_true, if_false, mapLL_frz n rows h, RM.bind, RM.run]
theorem frz_ok {n : Nat} {S : Store} {v : AVal} (h : v.closed = true) : (frz n v).run S = some (v, []) := by
  rw [frz_closed n v h]; rfl

theorem run_bindO {α β : Type} : ∀ (m : RM α) (f : α → RM β) (S : Store) (a : α) (ids ids' : List Nat) (y : β), m.run S = some (a, ids) → (f a).run S = some (y, ids') → (m.bind f).run S = some (y, ids ++ ids')
  | .ok a, f, S, b, ids, ids', y, h, hy => by simp [RM.run] at h; obtain ⟨rfl, rfl⟩ := h; exact hy
  | .fail, f, S, a, ids, ids', y, h, hy => by simp [RM.run] at h
  | .rd c k, f, S, a, ids, ids', y, h, hy => by
    obtain ⟨blk, l, g1, g2, g3⟩ := run_rd h
    simp only at g3 g2
    subst g3
    simp only [RM.bind, RM.run, g1, run_bindO (k blk) f S a l ids' y g2 hy, List.cons_append]

/-- the arguments of a call, read out one by one -/
def FrzL (S : Store) (vs vs' : List AVal) : Prop := ∀ n, ∃ ids, (RM.mapL (frz (n + 3)) vs).run S = some (vs', ids)

theorem frzL_nil {S : Store} : FrzL S [] [] := fun _ => ⟨[], rfl⟩
theorem frzL_cons {S : Store} {v v' : AVal} {vs vs' : List AVal} (h : ∀ n, ∃ ids, (frz (n + 3) v).run S = some (v', ids)) (hr : FrzL S vs vs') : FrzL S (v :: vs) (v' :: vs') := fun n => by
  obtain ⟨i, h1⟩ := h n
  obtain ⟨j, h2⟩ := hr n
  refine ⟨i ++ (j ++ []), ?_⟩
  simp only [RM.mapL]
  refine run_bindO _ _ _ _ _ _ _ h1 ?_
  exact run_bindO _ _ _ _ _ _ _ h2 rfl
/-- a struct that holds one slice -/
theorem frz_agg1 {S : Store} {v v' : AVal} {n : Nat} (h : ∃ ids, (frz n v).run S = some (v', ids)) : ∃ ids, (frz (n + 1) (.agg [v])).run S = some (.agg [v'], ids) := by
  obtain ⟨i, h⟩ := h
  simp only [frz]
  split
  · rename_i hc
    simp only [AVal.closed, closedL, Bool.and_true] at hc
    rw [frz_closed n v hc] at h
    simp only [RM.run, Option.some.injEq, Prod.mk.injEq] at h
    obtain ⟨rfl, rfl⟩ := h
    exact ⟨[], rfl⟩
  · refine ⟨(i ++ []) ++ [], ?_⟩
    refine run_bindO _ _ _ _ _ _ _ ?_ rfl
    simp only [RM.mapL, RM.bind]
    exact run_bindO _ _ _ _ _ _ _ h rfl

theorem frz_tuple {S : Store} {vs vs' : List AVal} {n : Nat} (h : ∃ ids, (RM.mapL (frz n) vs).run S = some (vs', ids)) : ∃ ids, (frz (n + 1) (.tuple vs)).run S = some (.tuple vs', ids) := by
  obtain ⟨i, h⟩ := h
  simp only [frz]
  split
  · rename_i hc
    simp only [AVal.closed] at hc
    rw [mapL_frz n vs hc] at h
    simp only [RM.run, Option.some.injEq, Prod.mk.injEq] at h
    obtain ⟨rfl, rfl⟩ := h
    exact ⟨[], rfl⟩
  · exact ⟨_, run_bindO _ _ _ _ _ _ _ h rfl⟩

theorem frz_agg {S : Store} {vs vs' : List AVal} {n : Nat} (h : ∃ ids, (RM.mapL (frz n) vs).run S = some (vs', ids)) : ∃ ids, (frz (n + 1) (.agg vs)).run S = some (.agg vs', ids) := by
  obtain ⟨i, h⟩ := h
  simp only [frz]
  split
  · rename_i hc
    simp only [AVal.closed] at hc
    rw [mapL_frz n vs hc] at h
    simp only [RM.run, Option.some.injEq, Prod.mk.injEq] at h
    obtain ⟨rfl, rfl⟩ := h
    exact ⟨[], rfl⟩
  · exact ⟨_, run_bindO _ _ _ _ _ _ _ h rfl⟩

section
variable {AP : AProg} {m : FM} {slot : Nat} {S : Store} {N : Nat}

theorem tl_call' {d : Option Nat} {args : List AOpd} {f : Nat} {as as' : List AVal} {g : Option (Nat × Bool)} {un : List Nat} {l : List AInstr} {m : FM} {S : Store} {r : AVal} {K : FM → Store → Prop}
    (ha : los m args = some as) (hz : FrzL S as as') (hr : CallR AP f as' r) (hfl : (norefL as || r.flat) = true)
    (hd : (d.all fun d => d < N) = true) (hg : gd m g = some true) (hp : AP.prim f = none) (hke : AP.keep f = false)
    (hk : TL AP N l (putM m d r) (S ++ [none]) K) : TL AP N (⟨d, .call (.c (.fn (.func f) [] [])) args, g, un⟩ :: l) m S K := by
  obtain ⟨ids, hz⟩ := hz 3
  exact tl_call (first := []) (cap := []) (as := as) hd hg rfl ha hp hke (by simpa [frzDepth] using hz) hr (by simpa using hfl) hk

/-- all of a slice, its room shut -/
theorem o_slice_full {sz : Nat} {x h q : AOpd} {rows : List (List AVal)} {k k' : IntKind} (hx : lo m x = some (.imm rows)) (hh : lo m h = some (.int k rows.length)) (hq : lo m q = some (.int k' rows.length)) (hr : rowOk sz rows[0]? = true) :
    OpR AP m slot S (.slice sz x none (some h) (some q)) (.lim rows) S ([], []) :=
  opr_v fun fr hfr n => by
    simp [semX, sem, hfr.opd hx, hfr.opd hh, hfr.opd hq, abound, RM.run]
    simp [hr, RM.run]

/-- the end of a view that has all its block -/
theorem o_slice_tail {sz b len k : Nat} {x l : AOpd} {kk : IntKind} {rows : List (List AVal)} (hx : lo m x = some (.view b 0 len false)) (hl : lo m l = some (.int kk k)) (h1 : S[b]? = some (some ⟨sz, rows⟩)) (h2 : rows.length = len) (hk : k ≤ len) :
    OpR AP m slot S (.slice sz x (some l) none none) (.view b k (len - k) false) S ([b], []) :=
  opr_r fun fr hfr n => by
    have : (k : Int) ≤ (len : Int) := by omega
    simp [semX, sem, hfr.opd hx, hfr.opd hl, abound, RM.run, h1, h2, this]

end

theorem tc_drawR {AP : AProg} {N : Nat} {l : List AInstr} {m : FM} {S : Store} {Q : AExit → FM → Store → Prop} (R : Store) (hR : List.replicate (nslots l) none = R)
    (h : TD AP N (l.zip (slots (S.length + nslots l) S.length l)) m (S ++ R) fun m' S' fps => drawOk fps l fps = true ∧ Q .normal m' S') : TC AP N (.draw l) m S Q := tc_draw (by rw [hR]; exact h)

theorem retd {m : FM} {S : Store} {rs : List ARes} {vs : List AVal} {r : AVal} (h1 : loResL m S rs = some vs) (h2 : ∃ ids, (frz frzDepth (one vs)).run S = some (r, ids)) :
    (AExit.ret = .normal ∨ AExit.ret = .ret) ∧ ∃ vs ids, loResL m S rs = some vs ∧ (frz frzDepth (one vs)).run S = some (r, ids) := ⟨.inr rfl, vs, h2.choose, h1, h2.choose_spec⟩

theorem tc_fin {AP : AProg} {N : Nat} {m : FM} {S : Store} {rs : List ARes} {vs : List AVal} {r : AVal} (h1 : loResL m S rs = some vs) (h2 : ∃ ids, (frz frzDepth (one vs)).run S = some (r, ids)) :
    TC AP N .ret m S fun ex m S => (ex = .normal ∨ ex = .ret) ∧ ∃ vs ids, loResL m S rs = some vs ∧ (frz frzDepth (one vs)).run S = some (r, ids) := tc_ret ⟨.inr rfl, vs, h2.choose, h1, h2.choose_spec⟩

/-- `for i := range n`, by rounds -/
theorem loop_nat {AP : AProg} {N : Nat} {c : ACode} {Q : AExit → FM → Store → Prop} (n : Nat) (Inv : Nat → FM → Store → Prop)
    (hb : ∀ i, i ≤ n → ∀ m S, Inv i m S → TC AP N c m S fun ex m' S' => match ex with | .normal => i < n ∧ ∃ m0, Wk m' m0 ∧ Inv (i + 1) m0 S' | ex => Q ex m' S') :
    ∀ m S, Inv 0 m S → TC AP N (.loop c) m S Q := by
  intro m S h0
  refine tc_loop (Inv := fun k m S => ∃ i, i ≤ n ∧ k = n - i ∧ Inv i m S) ?_ n m S ⟨0, by omega, by omega, h0⟩
  rintro k m S ⟨i, hi, rfl, hin⟩
  refine (hb i hi m S hin).mono ?_
  intro ex m' S' h
  cases ex with
  | normal =>
    obtain ⟨h1, m0, h2, h3⟩ := h
    exact ⟨n - (i + 1), m0, by omega, h2, i + 1, by omega, rfl, h3⟩
  | exit id => exact h
  | ret => exact h

/-- a loop: by a state of its own -/
theorem loop_st {AP : AProg} {N : Nat} {c : ACode} {Q : AExit → FM → Store → Prop} {m : FM} {S : Store} {σ : Type} (μ : σ → Nat) (mf : σ → FM) (I : σ → Store → Prop) (s0 : σ) (h0 : Wk m (mf s0)) (hS : I s0 S)
    (hb : ∀ s S, I s S → TC AP N c (mf s) S fun ex m' S' => match ex with | .normal => ∃ s', μ s' < μ s ∧ Wk m' (mf s') ∧ I s' S' | ex => Q ex m' S') : TC AP N (.loop c) m S Q := by
  refine tc_loop (Inv := fun k m S => ∃ s, k = μ s ∧ Wk m (mf s) ∧ I s S) ?_ (μ s0) m S ⟨s0, rfl, h0, hS⟩
  rintro k m S ⟨s, rfl, hw, hi⟩
  refine TC.weaken hw ((hb s S hi).mono ?_)
  intro ex m' S' h
  cases ex with
  | normal =>
    obtain ⟨s', h1, h2, h3⟩ := h
    exact ⟨μ s', m', h1, .refl _, s', rfl, h2, h3⟩
  | exit id => exact h
  | ret => exact h

end Go.Eng

/- Calls that hand blocks over: Clone, Delete, Insert. -/
namespace Go.Eng
open Go

/-- a call in a store of its own, and what it leaves -/
def CallSR (AP : AProg) (f : Nat) (args : List AVal) (S0 : Store) (v : AVal) (S1 : Store) : Prop := Ev (fun n => callS AP (exec AP n) f args S0) (v, S1)

theorem callSR_of {AP : AProg} {f : Nat} {af : AFunc} {args : List AVal} {S0 : Store} {Pst : AVal → Store → Prop} (hf : AP.fn f = some af) (hn : args.length = af.nargs)
    (h : TC AP (max af.nargs af.N) af.body (initM 0 args) S0 fun ex m S => (ex = .normal ∨ ex = .ret) ∧ ∃ vs, loResL m S af.res = some vs ∧ Pst (one vs) S) : ∃ v S1, CallSR AP f args S0 v S1 ∧ Pst v S1 := by
  unfold TC at h
  obtain ⟨ex, fr', m', S', h1, ⟨h2, vs, h3, h4⟩, h5⟩ := h args (fr_init args)
  refine ⟨_, _, ?_, h4⟩
  refine h5.map fun n hn' => ?_
  have hfin : finish af (ex, ⟨fr', S'⟩) = some (one vs, S') := by
    rcases h2 with rfl | rfl <;> simp only [finish, h1.resL h3]
  simp only [callS, hf, hn, if_true, hn', hfin]

theorem tc_finS {AP : AProg} {N : Nat} {m : FM} {S : Store} {rs : List ARes} {vs : List AVal} {Pst : AVal → Store → Prop} (h1 : loResL m S rs = some vs) (h2 : Pst (one vs) S) :
    TC AP N .ret m S fun ex m S => (ex = .normal ∨ ex = .ret) ∧ ∃ vs, loResL m S rs = some vs ∧ Pst (one vs) S := tc_ret ⟨.inr rfl, vs, h1, h2⟩

theorem moveArgs_noref : ∀ (as : List AVal) (k : Nat), norefL as = true → moveArgs as k = .ok (as, [], [])
  | [], _, _ => rfl
  | v :: vs, k, h => by
    simp only [norefL, Bool.and_eq_true] at h
    simp only [moveArgs, h.1, if_true, moveArgs_noref vs k h.2, RM.bind]

section
variable {AP : AProg} {m : FM} {slot : Nat} {S : Store} {N : Nat}

theorem tl_opk {d : Option Nat} {args : List AOpd} {f : Nat} {g : Option (Nat × Bool)} {un : List Nat} {l : List AInstr} {m : FM} {S S' : Store} {v : AVal} {fp : FP} {K : FM → Store → Prop}
    (h : OpR AP m S.length (S ++ [none]) (.call (.c (.fn (.func f) [] [])) args) v S' fp) (hd : (d.all fun d => d < N) = true) (hg : gd m g = some true) (hp : AP.prim f = none) (hke : AP.keep f = true)
    (hk : TL AP N l (putM m d v) S' K) : TL AP N (⟨d, .call (.c (.fn (.func f) [] [])) args, g, un⟩ :: l) m S K := fun fr hfr => by
  have hg' := hfr.gd hg
  unfold TL at hk
  obtain ⟨fr', m', S'', k1, k2, k3⟩ := hk _ (hfr.putO d v)
  refine ⟨fr', m', S'', k1, k2, ?_⟩
  unfold OpR at h
  obtain ⟨e, h1, rfl, rfl, h4⟩ := h fr hfr
  refine h1.bind k3 fun n hn hm => ?_
  have hsh : shares AP ⟨fr, S⟩ (.call (.c (.fn (.func f) [] [])) args) = none := by
    simp only [shares, fvOf, opd, hp, hke, if_true]
  simp only [stepL, step1, hg', hsh, allocs, if_true, dstep, hd, hn, hm]

/-- nothing is handed over; a block comes back -/
theorem o_keepv {args : List AOpd} {f : Nat} {as : List AVal} {j off len : Nat} {full : Bool} {S1 : Store} {blk : ABlock} (ha : los m args = some as) (hp : AP.prim f = none) (hke : AP.keep f = true) (hn : norefL as = true) (hs : (AP.split f && isSplitArg as) = false)
    (hc : CallSR AP f as [] (.view j off len full) S1) (hj : S1[j]? = some (some blk)) (hb : norefLL blk.rows = true) :
    OpR AP m slot S (.call (.c (.fn (.func f) [] [])) args) (.view slot off len full) (S.set slot (some blk)) ([], [slot]) := fun fr hfr =>
  ⟨⟨.view slot off len full, some blk, []⟩, by
    refine hc.map fun n hn' => ?_
    simp only [semX, opd, hfr.opds ha, semCall, hp, hke, if_true, List.nil_append, List.append_nil, semKeep, hs, Bool.false_eq_true, if_false, moveArgs_noref as 0 hn, RM.bind, nodup, List.map_nil, hn', keepRes, hj, hb, RM.run], rfl, rfl, rfl⟩

/-- nothing is handed over; a value that holds no block comes back -/
theorem o_keepn {args : List AOpd} {f : Nat} {as : List AVal} {r : AVal} {S1 : Store} (ha : los m args = some as) (hp : AP.prim f = none) (hke : AP.keep f = true) (hn : norefL as = true) (hs : (AP.split f && isSplitArg as) = false)
    (hc : CallSR AP f as [] r S1) (hr : r.noref = true) :
    OpR AP m slot S (.call (.c (.fn (.func f) [] [])) args) r S ([], []) := fun fr hfr =>
  ⟨⟨r, none, []⟩, by
    refine hc.map fun n hn' => ?_
    have hk : keepRes slot [] r S1 = .ok ⟨r, none, []⟩ := by
      cases r <;> simp only [keepRes, AVal.noref, Bool.false_eq_true] at hr ⊢ <;> simp [hr]
    simp only [semX, opd, hfr.opds ha, semCall, hp, hke, if_true, List.nil_append, List.append_nil, semKeep, hs, Bool.false_eq_true, if_false, moveArgs_noref as 0 hn, RM.bind, nodup, List.map_nil, hn', hk, RM.run], rfl, rfl, rfl⟩

/-- a block is handed over, and comes back -/
theorem o_keepm {args : List AOpd} {f : Nat} {rest : List AVal} {b off len : Nat} {full : Bool} {blk : ABlock} {j off' len' : Nat} {full' : Bool} {S1 : Store} {blk' : ABlock} (ha : los m args = some (.view b off len full :: rest)) (hp : AP.prim f = none) (hke : AP.keep f = true) (hn : norefL rest = true)
    (hb0 : S[b]? = some (some blk)) (hbr : norefLL blk.rows = true)
    (hc : CallSR AP f (.view 0 off len full :: rest) [some blk] (.view j off' len' full') S1) (hj : S1[j]? = some (some blk')) (hb : norefLL blk'.rows = true) :
    OpR AP m slot S (.call (.c (.fn (.func f) [] [])) args) (.view slot off' len' full') ((S.set b none).set slot (some blk')) ([b], [b, slot]) := fun fr hfr =>
  ⟨⟨.view slot off' len' full', some blk', [(b, none)]⟩, by
    refine hc.map fun n hn' => ?_
    have hs : (AP.split f && isSplitArg (.view b off len full :: rest)) = false := by
      cases rest <;> simp [isSplitArg, isEmptyS]
    simp only [semX, opd, hfr.opds ha, semCall, hp, hke, if_true, List.nil_append, List.append_nil, semKeep, hs, Bool.false_eq_true, if_false, moveArgs, AVal.noref, moveArgs_noref rest 1 hn, RM.bind, RM.run, hb0, hbr, nodup, List.map_cons, List.map_nil, List.contains_nil, Bool.not_false, Bool.and_true, hn', keepRes, hj, hb], rfl, rfl, rfl⟩

/-- nothing in, nothing out -/
theorem o_keep0 {args : List AOpd} {f : Nat} {as : List AVal} {n0 : Nat} (ha : los m args = some as) (hp : AP.prim f = none) (hke : AP.keep f = true) (hs : (AP.split f && isSplitArg as) = true)
    (h1 : givesNone AP (exec AP n0) f .nils = true) (h2 : givesNone AP (exec AP n0) f .enil = true) :
    OpR AP m slot S (.call (.c (.fn (.func f) [] [])) args) (.lim []) S ([], []) := fun fr hfr =>
  ⟨⟨.lim [], none, []⟩, ⟨n0, fun n hn => by
    have g1 := givesNone_le (exec_le n0 n hn) h1
    have g2 := givesNone_le (exec_le n0 n hn) h2
    simp only [semX, opd, hfr.opds ha, semCall, hp, hke, if_true, List.nil_append, List.append_nil, semKeep, hs, g1, g2, Bool.and_self, RM.run]⟩, rfl, rfl, rfl⟩

end
end Go.Eng

/- Slices that grow round by round; stores of unknown length. -/
namespace Go.Eng
open Go

@[simp] theorem set_snoc {S : Store} {a b : Option ABlock} : (S ++ [a]).set S.length b = S ++ [b] := by
  rw [List.set_append_right _ _ (Nat.le_refl _)]; simp
@[simp] theorem get_snoc {S : Store} {a : Option ABlock} : (S ++ [a])[S.length]? = some a := by simp

/-- a slice that `append` has made, row by row; its block isn't one of the first k -/
def Acc (k sz : Nat) (S : Store) (v : AVal) (rows : List (List AVal)) : Prop :=
  (v = .nils ∧ rows = []) ∨ (rows ≠ [] ∧ ∃ b, k ≤ b ∧ v = .view b 0 rows.length false ∧ S[b]? = some (some ⟨sz, rows⟩))

theorem acc_nil {k sz : Nat} {S : Store} : Acc k sz S .nils [] := .inl ⟨rfl, rfl⟩

theorem Acc.snoc {k sz : Nat} {S : Store} {v : AVal} {rows : List (List AVal)} (h : Acc k sz S v rows) (x : List (Option ABlock)) : Acc k sz (S ++ x) v rows := by
  rcases h with h | ⟨h1, b, h2, h3, h4⟩
  · exact .inl h
  · refine .inr ⟨h1, b, h2, h3, ?_⟩
    rw [List.getElem?_append_left (List.getElem?_eq_some_iff.1 h4).1]; exact h4

/-- the store's other blocks stay -/
theorem Acc.set {k sz : Nat} {S : Store} {v : AVal} {rows : List (List AVal)} (h : Acc k sz S v rows) {j : Nat} (hj : j < k) (x : Option ABlock) : Acc k sz (S.set j x) v rows := by
  rcases h with h | ⟨h1, b, h2, h3, h4⟩
  · exact .inl h
  · refine .inr ⟨h1, b, h2, h3, ?_⟩
    rw [set_get, if_neg (by omega)]; exact h4

theorem Acc.frz {k sz n : Nat} {S : Store} {v : AVal} {rows : List (List AVal)} (h : Acc k sz S v rows) (hc : closedLL rows = true) : ∃ ids, (frz (n + 1) v).run S = some (.imm rows, ids) := by
  rcases h with ⟨rfl, rfl⟩ | ⟨h1, b, h2, rfl, h4⟩
  · exact ⟨_, frz_nils⟩
  · exact ⟨_, frz_view h4 (by simp) (by simp) hc⟩

/-- a bound: none, or a number -/
def LoIs (m : FM) (x : Option AOpd) (n d : Nat) : Prop := (x = none ∧ n = d) ∨ ∃ a k, x = some a ∧ lo m a = some (.int k (n : Int))
theorem loIs_some {m : FM} {a : AOpd} {k : IntKind} {n d : Nat} (h : lo m a = some (.int k (n : Int))) : LoIs m (some a) n d := .inr ⟨a, k, rfl, h⟩
theorem loIs_none {m : FM} {d : Nat} : LoIs m none d d := .inl ⟨rfl, rfl⟩

section
variable {AP : AProg} {N : Nat}

theorem tl_acc {d : Option Nat} {k sz bytes : Nat} {x y : AOpd} {v vy : AVal} {rows new : List (List AVal)} {g : Option (Nat × Bool)} {un : List Nat} {l : List AInstr} {m : FM} {S : Store} {K : FM → Store → Prop}
    (hx : lo m x = some v) (hy : lo m y = some vy) (hacc : Acc k sz S v rows) (hr : rowsOf sz vy = .ok new) (hne : new ≠ []) (hst : (new.all fun r => r.all storable) = true) (hb : (rows.length + new.length) * bytes ≤ 17592186044416) (hkS : k ≤ S.length)
    (hd : (d.all fun d => d < N) = true) (hg : gd m g = some true)
    (hk : ∀ v' S', Acc k sz S' v' (rows ++ new) → S'.length = S.length + 1 → (∀ j, j < k → S'[j]? = S[j]?) → TL AP N l (putM m d v') S' K) : TL AP N (⟨d, .append sz bytes x y, g, un⟩ :: l) m S K := by
  rcases hacc with ⟨rfl, rfl⟩ | ⟨h1, b, h2, rfl, h4⟩
  · refine tl_opn (o_append_nils hx hy hr hne (by simp at hb; omega)) rfl hd hg rfl ?_
    refine hk _ _ ?_ (by simp) ?_
    · refine .inr ⟨by simpa using hne, S.length, hkS, by simp, ?_⟩
      simp
    · intro j hj
      rw [set_snoc, List.getElem?_append_left (by omega)]
  · have hbl : b < S.length := (List.getElem?_eq_some_iff.1 h4).1
    refine tl_opn (o_append_view hx hy hr hne (rows0 := rows) (by rw [List.getElem?_append_left hbl]; exact h4) rfl hb hst) rfl hd hg rfl ?_
    refine hk _ _ ?_ (by simp) ?_
    · refine .inr ⟨by simp [h1], S.length, hkS, by simp, ?_⟩
      rw [set_get, if_pos ⟨rfl, by simp⟩]
    · intro j hj
      rw [set_get, if_neg (by omega), set_get, if_neg (by omega), List.getElem?_append_left (by omega)]

section
variable {m : FM} {slot : Nat} {S : Store}

/-- a view, cut; its capacity is its block's end -/
theorem o_slice_view {sz b len lo' hi' : Nat} {x : AOpd} {xl xh : Option AOpd} {rows : List (List AVal)} (hx : lo m x = some (.view b 0 len false)) (h1 : S[b]? = some (some ⟨sz, rows⟩)) (h2 : len ≤ rows.length)
    (hl : LoIs m xl lo' 0) (hh : LoIs m xh hi' len) (hlh : lo' ≤ hi') (hhl : hi' ≤ rows.length) : OpR AP m slot S (.slice sz x xl xh none) (.view b lo' (hi' - lo') false) S ([b], []) :=
  opr_r fun fr hfr n => by
    have e1 : abound (xl.map (opd fr)) 0 hi' = some lo' := by
      rcases hl with ⟨rfl, rfl⟩ | ⟨a, k, rfl, hk⟩
      · rfl
      · simp only [Option.map_some, hfr.opd hk, abound]; rw [if_pos (by omega)]; simp
    have e2 : abound (xh.map (opd fr)) len rows.length = some hi' := by
      rcases hh with ⟨rfl, rfl⟩ | ⟨a, k, rfl, hk⟩
      · rfl
      · simp only [Option.map_some, hfr.opd hk, abound]; rw [if_pos (by omega)]; simp
    have e3 : ¬ (sz ≠ sz ∨ rows.length < len) := by omega
    have e0 : abound none rows.length rows.length = some rows.length := rfl
    simp only [semX, sem, hfr.opd hx, RM.run, h1, Option.map_none, Nat.sub_zero, Nat.zero_add, e0, e2, e1, if_neg e3, Option.isSome_none, Bool.false_or, Bool.or_false, Bool.and_false, Bool.false_eq_true, if_false]

/-- a call whose arguments are all closed -/
theorem o_callc {AP : AProg} {args : List AOpd} {f : Nat} {as : List AVal} {r : AVal} (ha : los m args = some as) (hc : closedL as = true) (hp : AP.prim f = none) (hke : AP.keep f = false) (hr : CallR AP f as r) (hfl : (norefL as || r.flat) = true) :
    OpR AP m slot S (.call (.c (.fn (.func f) [] [])) args) r S ([], []) := fun fr hfr =>
  ⟨⟨r, none, []⟩, by
    have hr' : Ev (fun n => callI AP (exec AP n) f as) r := hr
    refine hr'.map fun n hn => ?_
    simp only [semX, opd, hfr.opds ha, semCall, hp, hke, Bool.false_eq_true, if_false, List.nil_append, List.append_nil, mapL_frz _ _ hc, RM.bind, hn, hfl, if_true, RM.run], rfl, rfl, rfl⟩

theorem o_len_acc {AP : AProg} {k sz : Nat} {x : AOpd} {v : AVal} {rows : List (List AVal)} (hx : lo m x = some v) {S0 : Store} (h : Acc k sz S0 v rows) : OpR AP m slot S (.len false x) (.int .i64 rows.length) S ([], []) := by
  rcases h with ⟨rfl, rfl⟩ | ⟨_, b, _, rfl, _⟩
  · exact o_len_nils hx
  · exact o_len_view hx

theorem o_neqS' {AP : AProg} {x y : AOpd} {a b : List UInt8} {t : Bool} (hx : lo m x = some (.str a)) (hy : lo m y = some (.str b)) (h : (!(a == b)) = t) : OpR AP m slot S (.bin .neq x y) (.bool t) S ([], []) :=
  o_bin hx hy (by simp only [abin, astrop, h])

theorem o_lss' {x y : AOpd} {k : IntKind} {a b : Int} {t : Bool} (hx : lo m x = some (.int k a)) (hy : lo m y = some (.int k b)) (h : decide (a < b) = t) : OpR AP m slot S (.bin .lss x y) (.bool t) S ([], []) := h ▸ o_lss hx hy
theorem o_leq' {x y : AOpd} {k : IntKind} {a b : Int} {t : Bool} (hx : lo m x = some (.int k a)) (hy : lo m y = some (.int k b)) (h : decide (a ≤ b) = t) : OpR AP m slot S (.bin .leq x y) (.bool t) S ([], []) := h ▸ o_leq hx hy
theorem o_gtr' {x y : AOpd} {k : IntKind} {a b : Int} {t : Bool} (hx : lo m x = some (.int k a)) (hy : lo m y = some (.int k b)) (h : decide (a > b) = t) : OpR AP m slot S (.bin .gtr x y) (.bool t) S ([], []) := h ▸ o_gtr hx hy
theorem o_geq' {x y : AOpd} {k : IntKind} {a b : Int} {t : Bool} (hx : lo m x = some (.int k a)) (hy : lo m y = some (.int k b)) (h : decide (a ≥ b) = t) : OpR AP m slot S (.bin .geq x y) (.bool t) S ([], []) := h ▸ o_geq hx hy
theorem o_eql' {x y : AOpd} {k : IntKind} {a b : Int} {t : Bool} (hx : lo m x = some (.int k a)) (hy : lo m y = some (.int k b)) (h : (a == b) = t) : OpR AP m slot S (.bin .eql x y) (.bool t) S ([], []) := h ▸ o_eql hx hy
theorem o_neq' {x y : AOpd} {k : IntKind} {a b : Int} {t : Bool} (hx : lo m x = some (.int k a)) (hy : lo m y = some (.int k b)) (h : (a != b) = t) : OpR AP m slot S (.bin .neq x y) (.bool t) S ([], []) := h ▸ o_neq hx hy
end

section
variable {m : FM} {slot : Nat} {S : Store}

/-- a check of bounds: what it gives is not used -/
theorem o_slice_check {sz b len i j n : Nat} {x : AOpd} {lo' hi' mx' : AOpd} {k1 k2 k3 : IntKind} {rows : List (List AVal)} (hx : lo m x = some (.view b 0 len false)) (h1 : S[b]? = some (some ⟨sz, rows⟩)) (hl : lo m lo' = some (.int k1 (i : Int))) (hh : lo m hi' = some (.int k2 (j : Int))) (hm : lo m mx' = some (.int k3 (n : Int)))
    (hij : i ≤ j) (hjn : j ≤ n) (hn : n ≤ rows.length) (h2 : len ≤ rows.length) : OpR AP m slot S (.slice sz x (some lo') (some hi') (some mx')) (if (j == n) = true then .view b i (j - i) true else .undef) S ([b], []) :=
  opr_r fun fr hfr f => by
    have e3 : ¬ (sz ≠ sz ∨ rows.length < 0 + len) := by omega
    have e1 : (0 : Int) ≤ n ∧ (n : Int) ≤ (rows.length : Int) := by omega
    have e2 : (0 : Int) ≤ j ∧ (j : Int) ≤ (n : Int) := by omega
    have e4 : (0 : Int) ≤ i ∧ (i : Int) ≤ (j : Int) := by omega
    simp only [semX, sem, hfr.opd hx, hfr.opd hl, hfr.opd hh, hfr.opd hm, RM.run, h1, if_neg e3, Option.map_some, Nat.sub_zero, Nat.zero_add, abound, if_pos e1, Int.toNat_natCast, if_pos e2, if_pos e4, Option.isSome_some, Bool.true_or, Bool.and_true]
    have e5 : ¬ rows.length < len := by omega
    by_cases hj : (j == n) = true <;> simp [hj, RM.run, e5]

/-- appended in place: the rows ahead, moved down -/
theorem o_append_in {sz bytes b len : Nat} {x y : AOpd} {rows new : List (List AVal)} {off2 len2 : Nat} {full2 : Bool} (hx : lo m x = some (.view b 0 len false)) (hy : lo m y = some (.view b off2 len2 full2)) (h1 : S[b]? = some (some ⟨sz, rows⟩)) (hyr : (rows.drop off2).take len2 = new) (hyl : off2 + len2 ≤ rows.length)
    (hne : new ≠ []) (hlt : len < rows.length) (hfit : len + new.length ≤ rows.length) (hb : (len + new.length) * bytes ≤ 17592186044416) (hst : (new.all fun r => r.all storable) = true) :
    OpR AP m slot S (.append sz bytes x y) (.view b 0 (len + new.length) false) (S.set b (some ⟨sz, rows.take len ++ new ++ rows.drop (len + new.length)⟩)) ([b, b], [b]) := fun fr hfr =>
  ⟨⟨.view b 0 (len + new.length) false, none, [(b, some ⟨sz, rows.take len ++ new ++ rows.drop (len + new.length)⟩)]⟩, ⟨0, fun n _ => by
    have e1 : ¬ (len = rows.length) := by omega
    have e2 : len ≤ rows.length := by omega
    simp only [semX, sem, hfr.opd hx, hfr.opd hy, rowsOf, RM.bind, RM.run, h1, hyl, and_self, if_true, hyr]
    cases new with
    | nil => exact absurd rfl hne
    | cons r rs =>
      simp only [appendTo, RM.run, h1, Nat.zero_add, e2, hb, hst, and_self, if_true, Bool.false_eq_true, if_false, if_neg e1, if_pos hfit]⟩, rfl, rfl, rfl⟩

/-- nothing appended -/
theorem o_append_zero {sz bytes b len : Nat} {x y : AOpd} {rows : List (List AVal)} {off2 : Nat} {full full2 : Bool} (hx : lo m x = some (.view b 0 len full)) (hy : lo m y = some (.view b off2 0 full2)) (h1 : S[b]? = some (some ⟨sz, rows⟩)) (hyl : off2 ≤ rows.length) :
    OpR AP m slot S (.append sz bytes x y) (.view b 0 len full) S ([b, b], []) := fun fr hfr =>
  ⟨⟨.view b 0 len full, none, []⟩, ⟨0, fun n _ => by
    simp only [semX, sem, hfr.opd hx, hfr.opd hy, rowsOf, RM.bind, RM.run, h1, Nat.add_zero, hyl, and_self, if_true, List.take_zero, appendTo]⟩, rfl, rfl, rfl⟩

theorem o_clear {sz b off len : Nat} {x : AOpd} {full : Bool} {zero : List AVal} {rows : List (List AVal)} (hx : lo m x = some (.view b off len full)) (h1 : S[b]? = some (some ⟨sz, rows⟩)) (hz : zero.length = sz) (hl : off + len ≤ rows.length) (hst : zero.all storable = true) :
    OpR AP m slot S (.clear zero sz x) (.tuple []) (S.set b (some ⟨sz, rows.take off ++ List.replicate len zero ++ rows.drop (off + len)⟩)) ([b], [b]) :=
  opr_w fun fr hfr n => by simp only [semX, sem, hfr.opd hx, RM.run, h1, hz, hl, hst, and_self, if_true]
end

end

/-- a sequence, parted at what holds between -/
theorem tc_cut {AP : AProg} {N : Nat} {a b : ACode} {m : FM} {S : Store} {Q : AExit → FM → Store → Prop} {σ : Type} (mf : σ → FM) (I : σ → Store → Prop)
    (h1 : TC AP N a m S fun ex m' S' => match ex with | .normal => ∃ s, Wk m' (mf s) ∧ I s S' | ex => Q ex m' S') (h2 : ∀ s S', I s S' → TC AP N b (mf s) S' Q) : TC AP N (.seq a b) m S Q := by
  refine tc_seq (h1.mono ?_)
  intro ex m' S' h
  cases ex with
  | normal =>
    obtain ⟨s, hw, hi⟩ := h
    exact TC.weaken hw (h2 s S' hi)
  | exit id => exact h
  | ret => exact h

theorem get_app {S : Store} {j : Nat} {x : Option ABlock} {r : List (Option ABlock)} (h : S[j]? = some x) : (S ++ r)[j]? = some x := by
  rw [List.getElem?_append_left (List.getElem?_eq_some_iff.1 h).1]; exact h

/-- a slice in a variable: nil at first, then what a call gave back -/
def Var (v : AVal) (rows : List (List AVal)) : Prop := (v = .nils ∧ rows = []) ∨ v = .imm rows
theorem Var.frz {v : AVal} {rows : List (List AVal)} (h : Var v rows) (hc : closedLL rows = true) {S : Store} (n : Nat) : ∃ ids, (frz (n + 1) v).run S = some (.imm rows, ids) := by
  rcases h with ⟨rfl, rfl⟩ | rfl
  · exact ⟨_, frz_nils⟩
  · exact ⟨_, frz_ok hc⟩
theorem Var.frz1 {v : AVal} {rows : List (List AVal)} (h : Var v rows) (hc : closedLL rows = true) {S : Store} (n : Nat) : ∃ ids, (Eng.frz (n + 2) (.agg [v])).run S = some (.agg [.imm rows], ids) := frz_agg1 (h.frz hc n)

end Go.Eng

/- From the machine's answer to the statement. -/
namespace Go.Eng
open Go Go.RowKit Go.ChangeShapes Go.WideShapes

theorem Ext.below {w w' : World} (h : Ext [] w [] w') : Below w.heap.size w w' where
  os := h.env.1
  tape := h.env.2.2
  output := h.env.2.1
  size := h.size
  block k hk := (h.keep k (fun ⟨b, x, hb, _⟩ => by simp at hb) hk).2

section
variable {H : Type} {enc : TypeId × Value → H} {P : Program}

theorem trodAll_stays (hl : laidOutB P = true) {W W' : World} (hb : Below W.heap.size W W') : ∀ {ts : List TypeId} {vs : List Value} {ds : List (DataW H)} {p : List MemPlace}, (∀ t ∈ ts, P.readableRec t = true ∧ t < P.types.size) →
    DataW.TrodAll enc P W 0 (fun _ => true) true ts vs ds p → (∀ x ∈ p, x.block < W.heap.size) → DataW.TrodAll enc P W' 0 (fun b => decide (b < W.heap.size)) true ts vs ds p
  | [], [], [], _, _, h, _ => h
  | t :: ts, v :: vs, d :: ds, p, hr, h, hlt => by
    obtain ⟨p1, q, h1, h2, rfl⟩ := h
    obtain ⟨r1, r2⟩ := hr t (by simp)
    exact ⟨p1, q, Below.trod hl r1 r2 h1 hb (fun x hx => hlt x (by simp [hx])), trodAll_stays hl hb (fun t ht => hr t (by simp [ht])) h2 (fun x hx => hlt x (by simp [hx])), rfl⟩

def readB (P : Program) (fn : Func) : Bool := fn.params.toList.all fun t => P.readableRec t && decide (t < P.types.size)
def boolB (P : Program) (fn : Func) : Bool := match fn.resultTypes.toList with
  | [t] => match P.underlying t with
    | some .bool => true
    | _ => false
  | _ => false

/-- a law that answers true, and leaves what was as it was -/
theorem post_true {fn : Func} {s : ChangeSpec} {apart fresh handsOn : Bool} {W W' : World} {args : Array Value} {ds gs : List (DataW H)} {before : List MemPlace}
    (hl : laidOutB P = true) (hrd : readB P fn = true) (hbl : boolB P fn = true) (hvars : s.vars = [])
    (hW : DataW.Whole enc P fn.params.toList s.vars apart W args.toList ds gs before) (hres : (s.fn H (ds ++ gs)).results = [.lit (.bool true)]) (hargs : (s.fn H (ds ++ gs)).args = ds) (hsv : (s.fn H (ds ++ gs)).vars = [])
    (he : Ext [] W [] W') : s.post enc P fn apart fresh handsOn false W args (.bool true) W' := by
  have hr : ∀ t ∈ fn.params.toList, P.readableRec t = true ∧ t < P.types.size := fun t ht => by
    have := List.all_eq_true.1 hrd t ht
    simp only [Bool.and_eq_true, decide_eq_true_eq] at this
    exact this
  obtain ⟨tb, hrt, htb⟩ : ∃ tb, fn.resultTypes = #[tb] ∧ P.underlying tb = some .bool := by
    unfold boolB at hbl
    split at hbl
    · rename_i t ht
      refine ⟨t, by rw [← Array.toList_inj]; exact ht, ?_⟩
      split at hbl
      · rename_i h; exact h
      · cases hbl
    · cases hbl
  have hb := he.below
  have hlt := hW.lt
  have hW' := hW
  obtain ⟨p, q, h1, h2, rfl, h3, h4⟩ := hW
  rw [hvars] at h2
  obtain ⟨rfl, rfl⟩ := trodVars_none h2
  refine ⟨ds, [], p ++ [], [], p, [], hW', ?_, ?_, ?_, hb.frame _, fun h => by cases h⟩
  · rw [hres, hrt]
    exact trodAll_mk1 (shut_bool htb true)
  · rw [hargs]
    exact trodAll_stays hl hb hr h1 (fun x hx => hlt x (by simp [hx]))
  · rw [hsv, hvars]
    rfl

/-- the call, from the machine's run -/
theorem calls_true {AP : AProg} (hA : AOk P AP) {f : Nat} {fn : Func} (hf : P.funcs[f]? = some fn) {args : List AVal} {vs : List Value} {W : World} (hc : ∃ n, callI AP (exec AP n) f args = some (.bool true)) (hv : RepV [] (fun _ => False) W args vs)
    (hbody : fn.body.isSome = true) (hname : (fn.name == "runtime.NumGoroutine") = false)
    {K : World → Prop} (hk : ∀ W', Ext [] W [] W' → K W') : Calls P f vs.toArray W fun e W' => ∃ v, e = .returned v ∧ v = .bool true ∧ K W' := by
  obtain ⟨n, hn⟩ := hc
  have hd := call_sound hA hn (A := fun _ => False) (fun c h => h.elim) hv
  have hname' : fn.name ≠ "runtime.NumGoroutine" := by simpa using hname
  rcases hd with ⟨fn', h1, h2, h3, h4⟩ | ⟨v, w', h1, h2⟩
  · refine h4.mono ?_
    rintro e W' ⟨v, rfl, he, hr⟩
    exact ⟨v, rfl, hr, hk W' he⟩
  · obtain ⟨b, hb⟩ := Option.isSome_iff_exists.1 hbody
    simp [callFunc, hf, hname', hb] at h1

/-! arguments -/

theorem repLL_ints {k : IntKind} {T : Nat → Prop} {W : World} {b : Nat} : ∀ (zs : List Int) (o : Nat), (∀ i, i < zs.length → W.cell? ⟨b, o + i, none⟩ = some (.int k (zs.getD i 0))) →
    RepLL [] T W (zs.map fun n => [.int k n]) 1 (fun n => W.cell? ⟨b, o + n, none⟩)
  | [], _, _ => trivial
  | z :: zs, o, h => by
    refine ⟨rfl, ⟨⟨_, h 0 (by simp), rfl⟩, trivial⟩, ?_⟩
    have := repLL_ints (T := T) zs (o + 1) (fun i hi => by have := h (i + 1) (by simp; omega); simpa [Nat.add_assoc, Nat.add_comm 1 i] using this)
    have e : (fun n => W.cell? ⟨b, o + (n + 1), none⟩) = fun n => W.cell? ⟨b, o + 1 + n, none⟩ := by
      funext n; rw [Nat.add_assoc, Nat.add_comm 1 n]
    rw [e]; exact this

theorem open_ints_rep {r : Reach} {b0 : Nat} {t el : TypeId} {k : IntKind} {W : World} {sp : Nat → Bool} {v : Value} {d : DataW H} {ps : List MemPlace} (ht : P.underlying t = some (.slice el)) (he : P.underlying el = some (.int k)) (hc : P.cellsOf el = 1)
    (hval : Value.okWide P W r b0 t v) (h : DataW.Trod enc P W 0 sp true t v d ps) : ∃ zs : List Int, Rep [] (fun _ => False) W (.imm (zs.map fun n => [.int k n])) v ∧ (∀ n ∈ zs, (Lit.int k n).wf = true) ∧ zs.length ≤ maxLen := by
  obtain ⟨a0, len, cap, rfl⟩ := okWide_slice ht hval
  obtain ⟨fuel, hf⟩ := h
  rcases open_ints ht he hc hf with ⟨hcs, hx⟩ | ⟨a, len', cap', zs, hcs, _, hl, hm, hz, hx, hcell, hwz⟩
  · simp [Value.cells] at hcs
    obtain ⟨rfl, rfl, rfl⟩ := hcs
    exact ⟨[], ⟨none, 0, 0, rfl, rfl, Nat.le_refl _, fun _ => rfl, fun h => absurd rfl h⟩, by simp, by simp⟩
  · simp [Value.cells] at hcs
    obtain ⟨rfl, rfl, rfl⟩ := hcs
    have hlz : len ≤ zs.length := by rw [hz]; split <;> omega
    refine ⟨zs.take len, ⟨some a, len, cap, rfl, by simp; omega, hl, fun h => by simp at h, fun hne => ?_⟩, fun n hn => hwz n (List.mem_of_mem_take hn), by simp; omega⟩
    have hlen : 0 < len := by
      rcases Nat.eq_zero_or_pos len with h | h
      · subst h; simp at hne
      · exact h
    obtain ⟨b, off, spot⟩ := a
    have hspot : spot = none := by simpa [Addr.add] using World.cell?_spot (hcell 0 (by omega))
    subst hspot
    have hcell' : ∀ i, i < zs.length → W.cell? ⟨b, off + i, none⟩ = some (.int k (zs.getD i 0)) := fun i hi => by
      have := hcell i hi
      rwa [add_plain] at this
    refine ⟨1, b, off, rfl, ?_, id, ?_⟩
    · have := hcell' 0 (by omega)
      unfold World.cell? at this
      rcases Nat.lt_or_ge b W.heap.size with h | h
      · exact h
      · simp [Array.getElem?_eq_none h] at this
    · refine repLL_ints (zs.take len) off fun i hi => ?_
      simp at hi
      rw [hcell' i (by omega)]
      have hil : i < len := by omega
      simp [List.getD, List.getElem?_take, hil]

theorem repLL_strs {T : Nat → Prop} {W : World} {b : Nat} : ∀ (zs : List ByteArray) (o : Nat), (∀ i, i < zs.length → W.cell? ⟨b, o + i, none⟩ = some (.string (zs.getD i ByteArray.empty))) →
    RepLL [] T W (zs.map fun s => [.str s.data.toList]) 1 (fun n => W.cell? ⟨b, o + n, none⟩)
  | [], _, _ => trivial
  | z :: zs, o, h => by
    refine ⟨rfl, ⟨⟨_, h 0 (by simp), ⟨z, rfl, rfl⟩⟩, trivial⟩, ?_⟩
    have := repLL_strs (T := T) zs (o + 1) (fun i hi => by have := h (i + 1) (by simp; omega); simpa [Nat.add_assoc, Nat.add_comm 1 i] using this)
    have e : (fun n => W.cell? ⟨b, o + (n + 1), none⟩) = fun n => W.cell? ⟨b, o + 1 + n, none⟩ := by
      funext n; rw [Nat.add_assoc, Nat.add_comm 1 n]
    rw [e]; exact this

theorem open_strs_rep {r : Reach} {b0 : Nat} {t el : TypeId} {W : World} {sp : Nat → Bool} {v : Value} {d : DataW H} {ps : List MemPlace} (ht : P.underlying t = some (.slice el)) (he : P.underlying el = some .string) (hc : P.cellsOf el = 1)
    (hval : Value.okWide P W r b0 t v) (h : DataW.Trod enc P W 0 sp true t v d ps) : ∃ zs : List (List UInt8), Rep [] (fun _ => False) W (.imm (zs.map fun s => [.str s])) v ∧ zs.length ≤ maxLen ∧ ∀ s ∈ zs, s.length ≤ maxLen := by
  obtain ⟨a0, len, cap, rfl⟩ := okWide_slice ht hval
  obtain ⟨fuel, hf⟩ := h
  rcases open_strings ht he hc hf with ⟨hcs, hx⟩ | ⟨a, len', cap', zs, hcs, _, hl, hm, hz, hx, hcell, hwz⟩
  · simp [Value.cells] at hcs
    obtain ⟨rfl, rfl, rfl⟩ := hcs
    exact ⟨[], ⟨none, 0, 0, rfl, rfl, Nat.le_refl _, fun _ => rfl, fun h => absurd rfl h⟩, by simp, by simp⟩
  · simp [Value.cells] at hcs
    obtain ⟨rfl, rfl, rfl⟩ := hcs
    have hlz : len ≤ zs.length := by rw [hz]; split <;> omega
    refine ⟨(zs.take len).map fun s => s.data.toList, ⟨some a, len, cap, rfl, by simp; omega, hl, fun h => by simp at h, fun hne => ?_⟩, by simp; omega, ?_⟩
    · have hlen : 0 < len := by
        rcases Nat.eq_zero_or_pos len with h | h
        · subst h; simp at hne
        · exact h
      obtain ⟨b, off, spot⟩ := a
      have hspot : spot = none := by simpa [Addr.add] using World.cell?_spot (hcell 0 (by omega))
      subst hspot
      have hcell' : ∀ i, i < zs.length → W.cell? ⟨b, off + i, none⟩ = some (.string (zs.getD i ByteArray.empty)) := fun i hi => by
        have := hcell i hi
        rwa [add_plain] at this
      refine ⟨1, b, off, rfl, ?_, id, ?_⟩
      · have := hcell' 0 (by omega)
        unfold World.cell? at this
        rcases Nat.lt_or_ge b W.heap.size with h | h
        · exact h
        · simp [Array.getElem?_eq_none h] at this
      · rw [List.map_map]
        refine repLL_strs (zs.take len) off fun i hi => ?_
        simp at hi
        rw [hcell' i (by omega)]
        have hil : i < len := by omega
        simp [List.getD, List.getElem?_take, hil]
    · intro s hs
      obtain ⟨x, hx, rfl⟩ := List.mem_map.1 hs
      have := hwz x (List.mem_of_mem_take hx)
      rw [Array.length_toList]
      exact this

theorem repV_nil {T : Nat → Prop} {W : World} : RepV [] T W [] [] := ⟨rfl, fun i a v h => by simp at h⟩
theorem repV_cons {T : Nat → Prop} {W : World} {a : AVal} {v : Value} {as : List AVal} {vs : List Value} (h : Rep [] T W a v) (hr : RepV [] T W as vs) : RepV [] T W (a :: as) (v :: vs) :=
  ⟨by simp [hr.1], fun i x u hx hu => by
    cases i with
    | zero => simp at hx hu; subst hx hu; exact h
    | succ i => simp at hx hu; exact hr.2 i x u hx hu⟩

end
end Go.Eng

/- Arguments of any plain type: numbers, truths, texts, structs and slices of them. -/
namespace Go.Eng
open Go Go.RowKit Go.ChangeShapes Go.WideShapes

inductive Shp where
  | int (k : IntKind)
  | bool
  | str
  | sl (row : List Shp)

mutual
def ShpA : Shp → AVal → Prop
  | .int k, a => ∃ n, a = .int k n ∧ (Lit.int k n).wf = true
  | .bool, a => ∃ b, a = .bool b
  | .str, a => ∃ s, a = .str s ∧ s.length ≤ maxLen
  | .sl ss, a => ∃ rows, a = .imm rows ∧ rows.length ≤ maxLen ∧ ∀ r ∈ rows, ShpAs ss r
def ShpAs : List Shp → List AVal → Prop
  | [], as => as = []
  | s :: ss, as => ∃ a r, as = a :: r ∧ ShpA s a ∧ ShpAs ss r
end

/-- the cells of a struct's fields, one behind the other -/
def shapeFs (P : Program) (sub : TypeId → Option (List Shp)) : Nat → List Field → Option (List Shp)
  | _, [] => some []
  | off, f :: fs => if f.offset = off then match sub f.type with
      | some ms => if P.cellsOf f.type = ms.length then (shapeFs P sub (off + ms.length) fs).map (ms ++ ·) else none
      | none => none
    else none

def shapeT (P : Program) : Nat → TypeId → Option (List Shp)
  | 0, _ => none
  | d + 1, t => match P.underlying t with
    | some (.int k) => some [.int k]
    | some .bool => some [.bool]
    | some .string => some [.str]
    | some (.slice e) => match shapeT P d e with
      | some ss => if P.cellsOf e = ss.length ∧ 0 < ss.length then some [.sl ss] else none
      | none => none
    | some (.struct fs) => match shapeFs P (shapeT P d) 0 fs.toList with
      | some ss => if P.cellsOf t = ss.length then some ss else none
      | none => none
    | _ => none

section
variable {H : Type} {enc : TypeId × Value → H} {P : Program} {W : World} {sp : Nat → Bool} {T : Nat → Prop}

theorem shpAs_append : ∀ {ss ss' : List Shp} {as as' : List AVal}, ShpAs ss as → ShpAs ss' as' → ShpAs (ss ++ ss') (as ++ as')
  | [], _, _, _, h, h' => by simp only [ShpAs] at h; subst h; exact h'
  | s :: ss, _, _, _, h, h' => by
    simp only [ShpAs] at h
    obtain ⟨a, r, rfl, h1, h2⟩ := h
    simp only [List.cons_append, ShpAs]
    exact ⟨a, _, rfl, h1, shpAs_append h2 h'⟩

theorem shpAs_len : ∀ {ss : List Shp} {as : List AVal}, ShpAs ss as → as.length = ss.length
  | [], _, h => by simp only [ShpAs] at h; subst h; rfl
  | s :: ss, _, h => by
    simp only [ShpAs] at h
    obtain ⟨a, r, rfl, h1, h2⟩ := h
    simp [shpAs_len h2]

def Opens (T : Nat → Prop) (W : World) (ss : List Shp) (cs : List Value) : Prop := ∃ as, RepV [] T W as cs ∧ ShpAs ss as

theorem repV_one {a : AVal} {v : Value} (h : Rep [] T W a v) : RepV [] T W [a] [v] := repV_cons h repV_nil

theorem repV_app {a b : List AVal} {x y : List Value} (h : RepV [] T W a x) (h' : RepV [] T W b y) : RepV [] T W (a ++ b) (x ++ y) := h.append h'

theorem opens_fs {n : Nat} {sub : TypeId → Option (List Shp)} (ih : ∀ t ss cs x, sub t = some ss → DataW.trod enc P W 0 sp true n t cs = some x → Opens T W ss cs) {cs : List Value} :
    ∀ (fs : List Field) (off : Nat) (ss : List Shp), shapeFs P sub off fs = some ss → (∀ f ∈ fs, ∃ x, DataW.trod enc P W 0 sp true n f.type ((cs.drop f.offset).take (P.cellsOf f.type)) = some x) →
      cs.length = off + ss.length → Opens T W ss (cs.drop off)
  | [], off, ss, h, _, hl => by
    simp only [shapeFs, Option.some.injEq] at h; subst h
    rw [List.drop_of_length_le (by simp at hl; omega)]
    exact ⟨[], repV_nil, rfl⟩
  | f :: fs, off, ss, h, hx, hl => by
    simp only [shapeFs] at h
    split at h
    · rename_i ho
      split at h
      · rename_i ms hms
        split at h
        · rename_i hc
          simp only [Option.map_eq_some_iff] at h
          obtain ⟨rs, hrs, rfl⟩ := h
          obtain ⟨x, hxx⟩ := hx f (by simp)
          obtain ⟨as, h1, h2⟩ := ih _ _ _ _ hms hxx
          obtain ⟨bs, h3, h4⟩ := opens_fs ih (cs := cs) fs (off + ms.length) rs hrs (fun g hg => hx g (by simp [hg])) (by simp at hl; omega)
          refine ⟨as ++ bs, ?_, shpAs_append h2 h4⟩
          have e : cs.drop off = (cs.drop f.offset).take (P.cellsOf f.type) ++ cs.drop (off + ms.length) := by
            rw [ho, hc, ← List.drop_drop, List.take_append_drop]
          rw [e]
          exact repV_app h1 h3
        · cases h
      · cases h
    · cases h

theorem repL_of_cells {b o : Nat} {as : List AVal} {cs : List Value} (h : RepV [] T W as cs) (hc : ∀ i, i < cs.length → W.cell? ⟨b, o + i, none⟩ = cs[i]?) : RepL [] T W as (fun n => W.cell? ⟨b, o + n, none⟩) := by
  induction as generalizing cs o with
  | nil => trivial
  | cons a as ih =>
    obtain ⟨hl, hr⟩ := h
    cases cs with
    | nil => simp at hl
    | cons v vs =>
      refine ⟨⟨v, by have := hc 0 (by simp); simpa using this, hr 0 a v rfl rfl⟩, ?_⟩
      have := ih (cs := vs) (o := o + 1) ⟨by simpa using hl, fun i x u hx hu => hr (i + 1) x u (by simpa using hx) (by simpa using hu)⟩
        (fun i hi => by have := hc (i + 1) (by simp; omega); simpa [Nat.add_assoc, Nat.add_comm 1 i] using this)
      have e : (fun n => W.cell? ⟨b, o + (n + 1), none⟩) = fun n => W.cell? ⟨b, o + 1 + n, none⟩ := by
        funext n; rw [Nat.add_assoc, Nat.add_comm 1 n]
      rw [e]; exact this

theorem opens_t : ∀ (d : Nat) (fuel : Nat) (t : TypeId) (ss : List Shp) (cs : List Value) (x : DataW H × List MemPlace), shapeT P d t = some ss → DataW.trod enc P W 0 sp true fuel t cs = some x → Opens (fun _ => False) W ss cs
  | 0, _, _, _, _, _, h, _ => by simp [shapeT] at h
  | d + 1, fuel, t, ss, cs, x, h, hx => by
    simp only [shapeT] at h
    split at h
    · rename_i k ht
      cases h
      obtain ⟨n, rfl, _, hw⟩ := DataW.trod_int ht hx
      exact ⟨[.int k n], repV_one rfl, ⟨_, _, rfl, ⟨n, rfl, hw⟩, rfl⟩⟩
    · rename_i ht
      cases h
      obtain ⟨b, rfl, _⟩ := DataW.trod_bool ht hx
      exact ⟨[.bool b], repV_one rfl, ⟨_, _, rfl, ⟨b, rfl⟩, rfl⟩⟩
    · rename_i ht
      cases h
      obtain ⟨s, rfl, _, hs⟩ := DataW.trod_string ht hx
      exact ⟨[.str s.data.toList], repV_one ⟨s, rfl, rfl⟩, ⟨_, _, rfl, ⟨_, rfl, by rw [Array.length_toList]; exact hs⟩, rfl⟩⟩
    · rename_i e ht
      split at h
      · rename_i es hes
        split at h
        · rename_i hc
          cases h
          rcases DataW.trod_slice ht hx with ⟨rfl, _⟩ | ⟨a, len, cap, elems, rest, n, rfl, rfl, _, _, hl, hm, hlen, hel, _, _⟩
          · exact ⟨[.imm []], repV_one ⟨none, 0, 0, rfl, rfl, Nat.le_refl _, fun _ => rfl, fun h => absurd rfl h⟩, ⟨_, _, rfl, ⟨[], rfl, by simp, by simp⟩, rfl⟩⟩
          · obtain ⟨b, off, spot⟩ := a
            rcases Nat.eq_zero_or_pos len with h0 | hpos
            · subst h0
              exact ⟨[.imm []], repV_one ⟨some ⟨b, off, spot⟩, 0, cap, rfl, rfl, hl, fun h => by simp at h, fun h => absurd rfl h⟩, ⟨_, _, rfl, ⟨[], rfl, by simp, by simp⟩, rfl⟩⟩
            have row : ∀ i, i < len → ∃ cs', W.cells? 0 ((⟨b, off, spot⟩ : Addr).add (i * P.cellsOf e)) (P.cellsOf e) = some cs' ∧ Opens (fun _ => False) W es cs' := by
              intro i hi
              have h1 := hel i hi
              rw [List.getElem?_eq_getElem (by omega), Option.bind_eq_some_iff] at h1
              obtain ⟨cs', h2, h3⟩ := h1
              exact ⟨cs', h2, opens_t d n e es cs' _ hes h3⟩
            have hspot : spot = none := by
              obtain ⟨cs', h1, _⟩ := row 0 hpos
              have := (World.cells?_some h1).2.2 0 (by omega)
              simp only [Nat.zero_mul] at this
              have h2 : ((⟨b, off, spot⟩ : Addr).add 0).add 0 = ⟨b, off, spot⟩ := by simp [Addr.add]
              have hl9 := (World.cells?_some h1).2.1
              rw [h2, List.getElem?_eq_getElem (show 0 < cs'.length by omega)] at this
              have h3 := World.cell?_spot this
              simpa using h3
            subst hspot
            have rows : ∀ m, m ≤ len → ∃ rows : List (List AVal), rows.length = m ∧ RepLL [] (fun _ => False) W rows es.length (fun n => W.cell? ⟨b, off + (len - m) * es.length + n, none⟩) ∧ ∀ r ∈ rows, ShpAs es r := by
              intro m
              induction m with
              | zero => intro _; exact ⟨[], rfl, trivial, by simp⟩
              | succ m ihm =>
                intro hmm
                obtain ⟨rs, g1, g2, g3⟩ := ihm (by omega)
                obtain ⟨cs', h1, as, h2, h3⟩ := row (len - (m + 1)) (by omega)
                refine ⟨as :: rs, by simp [g1], ⟨shpAs_len h3, ?_, ?_⟩, ?_⟩
                · have hcc := World.cells?_some h1
                  refine repL_of_cells h2 fun i hi => ?_
                  have hil : cs'.length = P.cellsOf e := hcc.2.1
                  have := hcc.2.2 i (by omega)
                  rw [add_plain, add_plain, hc.1] at this
                  rw [this]
                · have e1 : (fun n => W.cell? ⟨b, off + (len - (m + 1)) * es.length + (n + es.length), none⟩) = fun n => W.cell? ⟨b, off + (len - m) * es.length + n, none⟩ := by
                    funext n
                    have : len - m = (len - (m + 1)) + 1 := by omega
                    rw [this, Nat.succ_mul]
                    congr 2
                    omega
                  rw [e1]; exact g2
                · intro r hr
                  rcases List.mem_cons.1 hr with rfl | hr
                  · exact h3
                  · exact g3 r hr
            obtain ⟨rs, g1, g2, g3⟩ := rows len (Nat.le_refl _)
            rw [Nat.sub_self, Nat.zero_mul, Nat.add_zero] at g2
            refine ⟨[.imm rs], repV_one ⟨some ⟨b, off, none⟩, len, cap, rfl, g1.symm, hl, fun h => by simp at h, fun _ => ⟨es.length, b, off, rfl, ?_, id, g2⟩⟩, ⟨_, _, rfl, ⟨rs, rfl, by omega, g3⟩, rfl⟩⟩
            obtain ⟨cs', h1, _⟩ := row 0 hpos
            have := (World.cells?_some h1).2.2 0 (by omega)
            rcases Nat.lt_or_ge b W.heap.size with h | h
            · exact h
            · exfalso
              simp only [Nat.zero_mul] at this
              simp [Addr.add, World.cell?, Array.getElem?_eq_none h] at this
              have h9 := (World.cells?_some h1).2.1
              rw [this, hc.1] at h9
              simp at h9
              omega
        · cases h
      · cases h
    · rename_i fs ht
      split at h
      · rename_i ss' hss
        split at h
        · rename_i hc
          cases h
          obtain ⟨xs, n, rfl, _, hcl, hxl, hf⟩ := DataW.trod_struct ht hx
          have := opens_fs (enc := enc) (sp := sp) (T := fun _ => False) (cs := cs) (n := n) (fun t ss cs x h1 h2 => opens_t d n t ss cs x h1 h2) fs.toList 0 _ hss (fun f hfm => by
            obtain ⟨i, hi⟩ := List.getElem?_of_mem hfm
            have hi' : fs[i]? = some f := by simpa using hi
            have hlt : i < xs.length := by rw [hxl]; exact (Array.getElem?_eq_some_iff.1 hi').1
            exact ⟨xs[i], by rw [hf i f hi', List.getElem?_eq_getElem hlt]⟩) (by rw [hcl, hc]; omega)
          simpa using this
        · cases h
      · cases h
    · cases h

end
end Go.Eng

