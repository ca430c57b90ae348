/- A part of the engine: a machine over abstract values, and the proof that the program does what it does; no condition. -/
import Derived.Test.YtiomljbaolopiaaE2
import Derived.LoopN
import Derived.Scope
set_option linter.unusedSectionVars false
set_option linter.unusedVariables false
set_option linter.unusedSimpArgs false
set_option linter.unnecessarySimpa false
/- What may leave the store. -/
namespace Go.Eng
open Go

section
variable {P : Program} {A : Nat → Prop} {κ κ2 : Kap} {S : Store} {w w' : World} {T' : Nat → Prop}

theorem mapL_spec {α β : Type} {f : α → RM β} : ∀ {l : List α} {l' : List β} {ids : List Nat}, (RM.mapL f l).run S = some (l', ids) →
    l'.length = l.length ∧ ∀ (i : Nat) x, l[i]? = some x → ∃ y ids', l'[i]? = some y ∧ (f x).run S = some (y, ids')
  | [], l', ids, h => by simp [RM.mapL, RM.run] at h; obtain ⟨rfl, -⟩ := h; exact ⟨rfl, fun i x h => by simp at h⟩
  | x :: l, l', ids, h => by
    simp only [RM.mapL] at h
    obtain ⟨y, i1, i2, h1, h2, -⟩ := run_bind h
    obtain ⟨ys, i3, i4, h3, h4, -⟩ := run_bind h2
    simp only [RM.run, Option.some.injEq, Prod.mk.injEq] at h4
    obtain ⟨rfl, -⟩ := h4
    obtain ⟨g1, g2⟩ := mapL_spec h3
    refine ⟨by simp [g1], fun i z hz => ?_⟩
    cases i with
    | zero => simp at hz; subst hz; exact ⟨y, i1, rfl, h1⟩
    | succ i => exact g2 i z (by simpa using hz)

theorem norefL_get : ∀ {l : List AVal} {i : Nat} {x : AVal}, norefL l = true → l[i]? = some x → x.noref = true
  | [], i, x, _, h => by simp at h
  | y :: l, 0, x, hn, h => by simp at h; subst h; simp only [norefL, Bool.and_eq_true] at hn; exact hn.1
  | y :: l, i + 1, x, hn, h => by simp only [norefL, Bool.and_eq_true] at hn; exact norefL_get hn.2 (by simpa using h)
theorem norefLL_get : ∀ {l : List (List AVal)} {i : Nat} {x : List AVal}, norefLL l = true → l[i]? = some x → norefL x = true
  | [], i, x, _, h => by simp at h
  | y :: l, 0, x, hn, h => by simp at h; subst h; simp only [norefLL, Bool.and_eq_true] at hn; exact hn.1
  | y :: l, i + 1, x, hn, h => by simp only [norefLL, Bool.and_eq_true] at hn; exact norefLL_get hn.2 (by simpa using h)
theorem closedL_of : ∀ {l : List AVal}, (∀ (i : Nat) x, l[i]? = some x → x.closed = true) → closedL l = true
  | [], _ => rfl
  | x :: l, h => by simp only [closedL, Bool.and_eq_true]; exact ⟨h 0 x rfl, closedL_of fun i y hy => h (i + 1) y (by simpa using hy)⟩
theorem closedLL_of : ∀ {l : List (List AVal)}, (∀ (i : Nat) x, l[i]? = some x → closedL x = true) → closedLL l = true
  | [], _ => rfl
  | x :: l, h => by simp only [closedLL, Bool.and_eq_true]; exact ⟨h 0 x rfl, closedLL_of fun i y hy => h (i + 1) y (by simpa using hy)⟩

variable (hS : RS A κ S w) (hT : ∀ c, ¬ Avoid A κ c → ¬ T' c)
include hS hT

theorem frz_rep : ∀ (n : Nat) (v v' : AVal) (x : Value) (ids : List Nat), (frz n v).run S = some (v', ids) → (v.noref = true ∨ ∀ (b : Nat) y, κ[b]? = some (some (some y)) → ¬ T' y.cb) →
    Rep κ (Avoid A κ) w v x → v'.closed = true ∧ Rep κ2 T' w v' x := by
  intro n
  induction n with
  | zero =>
    intro v v' x ids h hn hr
    simp only [frz] at h
    split at h
    · rename_i hc
      simp only [RM.run, Option.some.injEq, Prod.mk.injEq] at h
      obtain ⟨rfl, -⟩ := h
      exact ⟨hc, rep_closed hT v x hc hr⟩
    · exact (run_fail h).elim
  | succ n ih =>
    intro v v' x ids h hn hr
    have ihL : ∀ (cs cs' : List AVal) (g : Nat → Option Value) (ids : List Nat), (RM.mapL (frz n) cs).run S = some (cs', ids) → (norefL cs = true ∨ ∀ (b : Nat) y, κ[b]? = some (some (some y)) → ¬ T' y.cb) →
        RepL κ (Avoid A κ) w cs g → cs'.length = cs.length ∧ closedL cs' = true ∧ RepL κ2 T' w cs' g := by
      intro cs cs' g ids hm hn hr
      obtain ⟨g1, g2⟩ := mapL_spec hm
      have key : ∀ (i : Nat) y, cs'[i]? = some y → y.closed = true ∧ ∃ v, g i = some v ∧ Rep κ2 T' w y v := by
        intro i y hy
        have hl : i < cs.length := by rw [← g1]; exact (List.getElem?_eq_some_iff.1 hy).1
        have hc : cs[i]? = some cs[i] := by simp [hl]
        obtain ⟨y', ids', g3, g4⟩ := g2 i _ hc
        rw [hy] at g3; cases g3
        obtain ⟨v, hv, hvr⟩ := repL_get cs g hr i _ hc
        obtain ⟨k1, k2⟩ := ih _ _ _ _ g4 (hn.imp (fun h => norefL_get h hc) id) hvr
        exact ⟨k1, v, hv, k2⟩
      exact ⟨g1, closedL_of fun i y hy => (key i y hy).1, repL_of _ _ fun i y hy => (key i y hy).2⟩
    have ihLL : ∀ (rs rs' : List (List AVal)) (sz : Nat) (g : Nat → Option Value) (ids : List Nat), (RM.mapL (RM.mapL (frz n)) rs).run S = some (rs', ids) → (norefLL rs = true ∨ ∀ (b : Nat) y, κ[b]? = some (some (some y)) → ¬ T' y.cb) →
        RepLL κ (Avoid A κ) w rs sz g → rs'.length = rs.length ∧ closedLL rs' = true ∧ RepLL κ2 T' w rs' sz g := by
      intro rs rs' sz g ids hm hn hr
      obtain ⟨g1, g2⟩ := mapL_spec hm
      have key : ∀ (i : Nat) y, rs'[i]? = some y → closedL y = true ∧ y.length = sz ∧ RepL κ2 T' w y (fun m => g (i * sz + m)) := by
        intro i y hy
        have hl : i < rs.length := by rw [← g1]; exact (List.getElem?_eq_some_iff.1 hy).1
        have hc : rs[i]? = some rs[i] := by simp [hl]
        obtain ⟨y', ids', g3, g4⟩ := g2 i _ hc
        rw [hy] at g3; cases g3
        obtain ⟨k1, k2⟩ := repLL_row hr hc
        obtain ⟨k3, k4, k5⟩ := ihL _ _ _ _ g4 (hn.imp (fun h => norefLL_get h hc) id) k2
        exact ⟨k4, by rw [k3, k1], k5⟩
      exact ⟨g1, closedLL_of fun i y hy => (key i y hy).1, repLL_of _ _ _ fun i y hy => (key i y hy).2⟩
    have immRep : ∀ (rows rows' : List (List AVal)) (ids : List Nat), (RM.mapL (RM.mapL (frz n)) rows).run S = some (rows', ids) → (norefLL rows = true ∨ ∀ (b : Nat) y, κ[b]? = some (some (some y)) → ¬ T' y.cb) →
        Rep κ (Avoid A κ) w (.imm rows) x → (AVal.imm rows').closed = true ∧ Rep κ2 T' w (.imm rows') x := by
      rintro rows rows' ids hm hn ⟨p, len, cap, g1, g2, g3, g4, g5⟩
      have hlen := (mapL_spec hm).1
      by_cases hr0 : rows = []
      · subst hr0
        have : rows' = [] := List.eq_nil_of_length_eq_zero (by simpa using hlen)
        subst this
        exact ⟨rfl, p, len, cap, g1, g2, g3, g4, fun h => absurd rfl h⟩
      · obtain ⟨sz, cb, of, k1, k2, k3, k4⟩ := g5 hr0
        obtain ⟨m1, m2, m3⟩ := ihLL _ _ _ _ _ hm hn k4
        exact ⟨m2, p, len, cap, g1, by rw [g2, m1], g3, g4, fun _ => ⟨sz, cb, of, k1, k2, hT _ k3, m3⟩⟩
    simp only [frz] at h
    split at h
    · rename_i hc
      simp only [RM.run, Option.some.injEq, Prod.mk.injEq] at h
      obtain ⟨rfl, -⟩ := h
      exact ⟨hc, rep_closed hT v x hc hr⟩
    · rename_i hnc
      clear hnc immRep
      cases v <;> simp only at h
      case view b off len full =>
        obtain ⟨blk, l, hb, h, -⟩ := run_rd h
        simp only at h
        split at h
        · rename_i hl
          obtain ⟨rows, l1, l2, h1, h2, -⟩ := run_bind h
          simp only [RM.run, Option.some.injEq, Prod.mk.injEq] at h2
          obtain ⟨rfl, -⟩ := h2
          have hH : ∀ (b : Nat) y, κ[b]? = some (some (some y)) → ¬ T' y.cb := by
            rcases hn with hn | hn
            · simp [AVal.noref] at hn
            · exact hn
          obtain ⟨ev, cb, of, cap, g1, rfl, g3⟩ := hr
          obtain ⟨xk, hxk, hok⟩ := hS.live b blk hb
          rw [g1] at hxk; cases hxk
          obtain ⟨q1, q2, q3, q4, _⟩ := g3 xk rfl
          have hsub := repLL_sub hok.rep off (off + len)
          rw [← List.take_drop] at hsub
          obtain ⟨m1, m2, m3⟩ := ihLL _ _ _ _ _ h1 (.inr hH) hsub
          have hlen : ((blk.rows.drop off).take len).length = len := by simp; omega
          refine ⟨m2, some ⟨cb, of, none⟩, len, cap, rfl, by rw [m1, hlen], q1, by simp, fun hne => ?_⟩
          have hpos : 0 < len := by
            rcases Nat.eq_zero_or_pos len with h0 | h0
            · exact absurd (List.eq_nil_of_length_eq_zero (by rw [m1, hlen, h0])) hne
            · exact h0
          obtain ⟨rfl, rfl⟩ := q4 (by omega)
          refine ⟨blk.sz, xk.cb, _, rfl, hS.lt g1, hH _ _ g1, repLL_g _ _ _ _ (fun m u hu => ?_) m3⟩
          rw [← hu, hok.sz]; congr 2; omega
        · exact (run_fail h).elim
      case imm rows =>
        obtain ⟨rows', l1, l2, h1, h2, -⟩ := run_bind h
        simp only [RM.run, Option.some.injEq, Prod.mk.injEq] at h2
        obtain ⟨rfl, -⟩ := h2
        obtain ⟨p, len, cap, g1, g2, g3, g4, g5⟩ := hr
        have hlen := (mapL_spec h1).1
        have hn' : norefLL rows = true ∨ ∀ (b : Nat) y, κ[b]? = some (some (some y)) → ¬ T' y.cb := hn.imp (fun h => by simpa [AVal.noref] using h) id
        by_cases hr0 : rows = []
        · subst hr0
          have : rows' = [] := List.eq_nil_of_length_eq_zero (by simpa using hlen)
          subst this
          exact ⟨rfl, p, len, cap, g1, g2, g3, g4, fun h => absurd rfl h⟩
        · obtain ⟨sz, cb, of, k1, k2, k3, k4⟩ := g5 hr0
          obtain ⟨m1, m2, m3⟩ := ihLL _ _ _ _ _ h1 hn' k4
          exact ⟨m2, p, len, cap, g1, by rw [g2, m1], g3, g4, fun _ => ⟨sz, cb, of, k1, k2, hT _ k3, m3⟩⟩
      case lim rows =>
        obtain ⟨rows', l1, l2, h1, h2, -⟩ := run_bind h
        simp only [RM.run, Option.some.injEq, Prod.mk.injEq] at h2
        obtain ⟨rfl, -⟩ := h2
        obtain ⟨p, len, cap, g1, g2, g3, g4, g5⟩ := hr
        have hlen := (mapL_spec h1).1
        have hn' : norefLL rows = true ∨ ∀ (b : Nat) y, κ[b]? = some (some (some y)) → ¬ T' y.cb := hn.imp (fun h => by simpa [AVal.noref] using h) id
        by_cases hr0 : rows = []
        · subst hr0
          have : rows' = [] := List.eq_nil_of_length_eq_zero (by simpa using hlen)
          subst this
          exact ⟨rfl, p, len, cap, g1, g2, by omega, g4, fun h => absurd rfl h⟩
        · obtain ⟨sz, cb, of, k1, k2, k3, k4⟩ := g5 hr0
          obtain ⟨m1, m2, m3⟩ := ihLL _ _ _ _ _ h1 hn' k4
          exact ⟨m2, p, len, cap, g1, by rw [g2, m1], by omega, g4, fun _ => ⟨sz, cb, of, k1, k2, hT _ k3, m3⟩⟩
      case nils =>
        simp only [RM.run, Option.some.injEq, Prod.mk.injEq] at h
        obtain ⟨rfl, -⟩ := h
        exact ⟨rfl, none, 0, 0, hr, rfl, Nat.le_refl _, fun _ => rfl, fun h => absurd rfl h⟩
      case enil =>
        simp only [RM.run, Option.some.injEq, Prod.mk.injEq] at h
        obtain ⟨rfl, -⟩ := h
        obtain ⟨p, c, rfl⟩ := hr
        exact ⟨rfl, some p, 0, c, rfl, rfl, Nat.zero_le _, by simp, fun h => absurd rfl h⟩
      case agg cs =>
        obtain ⟨cs', l1, l2, h1, h2, -⟩ := run_bind h
        simp only [RM.run, Option.some.injEq, Prod.mk.injEq] at h2
        obtain ⟨rfl, -⟩ := h2
        obtain ⟨xs, g1, g2, g3⟩ := hr
        obtain ⟨m1, m2, m3⟩ := ihL _ _ _ _ h1 (hn.imp (fun h => by simpa [AVal.noref] using h) id) g3
        exact ⟨m2, xs, g1, by rw [g2, m1], m3⟩
      case tuple cs =>
        obtain ⟨cs', l1, l2, h1, h2, -⟩ := run_bind h
        simp only [RM.run, Option.some.injEq, Prod.mk.injEq] at h2
        obtain ⟨rfl, -⟩ := h2
        obtain ⟨xs, g1, g2, g3⟩ := hr
        obtain ⟨m1, m2, m3⟩ := ihL _ _ _ _ h1 (hn.imp (fun h => by simpa [AVal.noref] using h) id) g3
        exact ⟨m2, xs, g1, by rw [g2, m1], m3⟩
      case iface t u =>
        obtain ⟨u', l1, l2, h1, h2, -⟩ := run_bind h
        simp only [RM.run, Option.some.injEq, Prod.mk.injEq] at h2
        obtain ⟨rfl, -⟩ := h2
        obtain ⟨y, g1, g2⟩ := hr
        obtain ⟨m1, m2⟩ := ih _ _ _ _ h1 (hn.imp (fun h => by simpa [AVal.noref] using h) id) g2
        exact ⟨m1, y, g1, m2⟩
      case fn f as bs =>
        obtain ⟨as', l1, l2, h1, h2, -⟩ := run_bind h
        obtain ⟨bs', l3, l4, h3, h4, -⟩ := run_bind h2
        simp only [RM.run, Option.some.injEq, Prod.mk.injEq] at h4
        obtain ⟨rfl, -⟩ := h4
        obtain ⟨p, q, g1, g2, g3, g4, g5⟩ := hr
        obtain ⟨m1, m2, m3⟩ := ihL _ _ _ _ h1 (hn.imp (fun h => by simp only [AVal.noref, Bool.and_eq_true] at h; exact h.1) id) g4
        obtain ⟨n1, n2, n3⟩ := ihL _ _ _ _ h3 (hn.imp (fun h => by simp only [AVal.noref, Bool.and_eq_true] at h; exact h.2) id) g5
        exact ⟨by simp only [AVal.closed, m2, n2, Bool.and_self], p, q, g1, by rw [g2, m1], by rw [g3, n1], m3, n3⟩
      all_goals exact (run_fail h).elim

theorem frzL_rep {n : Nat} {cs cs' : List AVal} {vs : List Value} {ids : List Nat} (h : (RM.mapL (frz n) cs).run S = some (cs', ids)) (hn : norefL cs = true ∨ ∀ (b : Nat) y, κ[b]? = some (some (some y)) → ¬ T' y.cb)
    (hr : RepV κ (Avoid A κ) w cs vs) : RepV κ2 T' w cs' vs := by
  obtain ⟨g1, g2⟩ := mapL_spec h
  refine ⟨by rw [g1, hr.1], fun i y v hy hv => ?_⟩
  have hl : i < cs.length := by rw [← g1]; exact (List.getElem?_eq_some_iff.1 hy).1
  have hc : cs[i]? = some cs[i] := by simp [hl]
  obtain ⟨y', ids', g3, g4⟩ := g2 i _ hc
  rw [hy] at g3; cases g3
  exact (frz_rep hS hT n _ _ _ _ g4 (hn.imp (fun h => norefL_get h hc) id) (hr.2 i _ _ hc hv)).2

end

end Go.Eng

/- Calls. -/
namespace Go.Eng
open Go

def toExit : AExit → Exit
  | .normal => .normal
  | .exit id => .exit id
  | .ret => .ret

/-- what stands behind a run -/
def Post (A : Nat → Prop) (κ : Kap) (w : World) (N : Nat) (ex : AExit) (st : St) (e : Exit) (a : Act) (w' : World) : Prop :=
  e = toExit ex ∧ ∃ κ', Ext κ w κ' w' ∧ RS A κ' st.S w' ∧ RF A κ' w' N st.fr a

def SimRec (P : Program) (rec : Rec) : Prop :=
  ∀ N c ac st ex st', compileCode P c = some ac → rec N ac st = some (ex, st') → ∀ A κ a w, RS A κ st.S w → RF A κ w N st.fr a → c.wp P (Post A κ w N ex st') a w

/-- a function of this number answers so -/
def Does (P : Program) (f : FuncId) (vs : Array Value) (w : World) (K : Value → World → Prop) : Prop :=
  (∃ fn, P.funcs[f]? = some fn ∧ fn.name ≠ "runtime.NumGoroutine" ∧ fn.body.isSome = true ∧ Calls P f vs w (fun e w' => ∃ v, e = .returned v ∧ K v w')) ∨
  ∃ v w', (callFunc f vs).run P w = .ok (.value v) w' ∧ K v w'

def PrimOk (P : Program) (f : FuncId) (p : Prim) : Prop :=
  ∀ A κ S w slot args (vs : List Value) e rds, (p slot args).run S = some (e, rds) → RS A κ S w → κ[slot]? = some none → RepV κ (Avoid A κ) w args vs →
    Does P f vs.toArray w fun v w' => ∃ κ', Ext κ w κ' w' ∧ RS A κ' (effS slot e S) w' ∧ Rep κ' (Avoid A κ') w' e.val v ∧ ∀ (j : Nat), j ≠ slot → κ[j]? = some none → κ'[j]? = some none

structure AOk (P : Program) (A : AProg) : Prop where
  fn : ∀ f af, A.fn f = some af → compileAt P f = some af
  prim : ∀ f p, A.prim f = some p → PrimOk P f p

theorem Does.mono {P : Program} {f : FuncId} {vs : Array Value} {w : World} {K K' : Value → World → Prop} (h : Does P f vs w K) (hk : ∀ v w', K v w' → K' v w') : Does P f vs w K' := by
  rcases h with ⟨fn, h1, h2, h3, h4⟩ | ⟨v, w', h1, h2⟩
  · exact .inl ⟨fn, h1, h2, h3, h4.mono fun e w' ⟨v, hv, h⟩ => ⟨v, hv, hk _ _ h⟩⟩
  · exact .inr ⟨v, w', h1, hk _ _ h2⟩

section
variable {P : Program} {A : Nat → Prop} {κ : Kap} {S : Store} {w : World} {N : Nat} {fr : List AVal} {a : Act} {o : Oper}

/-- a call by a function's value -/
theorem call_wp {fo : Operand} {args : Array Operand} {ts : Array TypeId} {f : FuncId} {first cap : Array Value} (ho : o.op = .call ⟨.value fo, args, ts⟩) (hf : a.eval fo = .func (.func f) first cap)
    {K : Act → World → Prop} {Q : Exit → Act → World → Prop} (h : Does P f (first ++ args.map a.eval ++ cap) w fun v w' => K (a.put o.dst v) w') : o.wp P a w K Q := by
  have hrun : (execOp a.eval o).run P w = (callFunc f (first ++ args.map a.eval ++ cap)).run P w := by
    simp [execOp, ho, resolve, Deferred.ofValue, hf, invoke]
  unfold Oper.wp
  rw [hrun]
  rcases h with ⟨fn, h1, h2, h3, h4⟩ | ⟨v, w', h1, h2⟩
  · have : (callFunc f (first ++ args.map a.eval ++ cap)).run P w = .ok (.enter f (first ++ args.map a.eval ++ cap)) w := by
      obtain ⟨b, hb⟩ := Option.isSome_iff_exists.1 h3
      simp [callFunc, h1, h2, hb]
    rw [this, Oper.upon_enter]
    exact h4.mono fun e w' ⟨v, hv, hk⟩ => by subst hv; exact hk
  · rw [h1, Oper.upon_value]; exact h2

/-- an operation that has run -/
theorem res_wp {e : Eff} {slot : Nat} {K : Act → World → Prop} {Q : Exit → Act → World → Prop} (h : Res A κ S w slot e ((execOp a.eval o).run P w))
    (hk : ∀ v w' κ', Ext κ w κ' w' → RS A κ' (effS slot e S) w' → Rep κ' (Avoid A κ') w' e.val v → (∀ (j : Nat), j ≠ slot → κ[j]? = some none → κ'[j]? = some none) → K (a.put o.dst v) w') : o.wp P a w K Q := by
  obtain ⟨v, w', κ', h1, h2, h3, h4, h5⟩ := h
  unfold Oper.wp
  rcases h1 with h1 | ⟨h1, rfl⟩
  · rw [h1, Oper.upon_value]; exact hk v w' κ' h2 h3 h4 h5
  · rw [h1, Oper.upon_skip]; exact hk undef w' κ' h2 h3 h4 h5

theorem ares_spec (hS : RS A κ S w) (hF : RF A κ w N fr a) : ∀ (rs : List ResultVar) (qs : List ARes) (vs : List AVal), resA P rs = some qs → aresL ⟨fr, S⟩ qs = some vs →
    ∃ us : List Value, (rs.mapM fun
      | .tmp t => pure (a.tmps.getD t undef)
      | .cell x t => do loadVar t (← asAddr (a.tmps.getD x undef)) : Sem (List Value)).run P w = .ok us w ∧ RepV κ (Avoid A κ) w vs us
  | [], qs, vs, h, hv => by
    simp [resA] at h; subst h
    simp [aresL] at hv; subst hv
    exact ⟨[], rfl, .nil⟩
  | .tmp t :: rs, qs, vs, h, hv => by
    simp only [resA] at h
    cases hr : resA P rs with
    | none => simp [hr] at h
    | some qs' =>
      simp [hr] at h; subst h
      simp only [aresL, ares] at hv
      split at hv
      · rename_i v vs' h1 h2
        cases h1; cases hv
        obtain ⟨us, g1, g2⟩ := ares_spec hS hF rs qs' vs' hr h2
        refine ⟨a.tmps.getD t undef :: us, ?_, .cons (hF.tmp t) g2⟩
        simp only [List.mapM_cons, Sem.run_bind, Sem.run_pure, Result.andThen_ok]
        erw [g1]
        rfl
      · cases hv
  | .cell x t :: rs, qs, vs, h, hv => by
    simp only [resA] at h
    split at h
    · rename_i g n qs' hsh hr
      cases h
      simp only [aresL] at hv
      split at hv
      · rename_i v vs' h1 h2
        cases hv
        obtain ⟨us, g1, g2⟩ := ares_spec hS hF rs qs' vs' hr h2
        simp only [ares] at h1
        split at h1
        · rename_i e ids he
          cases h1
          obtain ⟨ad, u, k3, k1, k2, -⟩ := load_run (P := P) (fr := fr) (y := .t x) (u := a.eval (.tmp x)) hS hsh (hF.tmp x) he
          refine ⟨u :: us, ?_, .cons k2 g2⟩
          have k3 : a.tmps.getD x undef = .pointer (some ad) := k3
          simp only [List.mapM_cons, Sem.run_bind, k3, asAddr, Sem.run_pure, Result.andThen_ok, k1]
          erw [g1]
          rfl
        · cases h1
      · cases hv
    · cases h

theorem results_spec (hS : RS A κ S w) (hF : RF A κ w N fr a) {f : Func} {qs : List ARes} {vs : List AVal} (hr : resA P f.results.toList = some qs) (hv : aresL ⟨fr, S⟩ qs = some vs) :
    ∃ v, (results f a.tmps).run P w = .ok v w ∧ Rep κ (Avoid A κ) w (one vs) v := by
  obtain ⟨us, h1, h2⟩ := ares_spec (P := P) hS hF _ _ _ hr hv
  have hm : ∀ g : ResultVar → Sem Value, (f.results.toList.mapM g).run P w = .ok us w → (f.results.mapM g).run P w = .ok us.toArray w := fun g hg => by
    rw [Array.mapM_eq_mapM_toList]
    simp only [Sem.run_map, hg, Result.andThen_ok]
  have hm' := hm _ h1
  refine ⟨if h : us.toArray.size = 1 then us.toArray[0] else .tuple us.toArray, ?_, ?_⟩
  · simp only [results, Sem.run_bind]
    erw [hm']
    rfl
  · match vs, us, h2 with
    | [], [], _ => exact tuple_rep (xs := #[]) .nil
    | [v], [u], h2 => exact h2.head
    | v1 :: v2 :: vs, u1 :: u2 :: us, h2 =>
      rw [dif_neg (by simp)]
      exact tuple_rep (xs := (u1 :: u2 :: us).toArray) (by simpa using h2)
    | [], u :: us, h2 => have := h2.1; simp at this
    | [v], [], h2 => have := h2.1; simp at this
    | [v], u1 :: u2 :: us, h2 => have := h2.1; simp at this
    | v1 :: v2 :: vs, [], h2 => have := h2.1; simp at this
    | v1 :: v2 :: vs, [u], h2 => have := h2.1; simp at this

theorem compileAt_spec {f : FuncId} {af : AFunc} (h : compileAt P f = some af) : ∃ fn b, P.funcs[f]? = some fn ∧ fn.body = some b ∧ fn.name ≠ "runtime.NumGoroutine" ∧ compileCode P b = some af.body ∧
    resA P fn.results.toList = some af.res ∧ af.N = fn.ntmps := by
  unfold compileAt at h
  cases hf : P.funcs[f]? with
  | none => simp [hf] at h
  | some fn =>
    simp only [hf, Option.bind_some, compileFunc] at h
    split at h
    · cases h
    · rename_i b hb
      split at h
      · cases h
      · rename_i hn
        split at h
        · rename_i c rs h1 h2
          cases h
          exact ⟨fn, b, rfl, hb, hn, h1, h2, rfl⟩
        · cases h

theorem get_nil : ∀ t, get [] t = .undef
  | 0 => rfl
  | _ + 1 => rfl
theorem get_rep {κ : Kap} {T : Nat → Prop} {w : World} : ∀ {vs : List AVal} {us : List Value}, RepV κ T w vs us → ∀ (t : Nat) (rest : List Value), Rep κ T w (get vs t) ((us ++ rest)[t]?.getD undef)
  | [], us, h, t, rest => by rw [get_nil]; trivial
  | v :: vs, [], h, t, rest => by have := h.1; simp at this
  | v :: vs, u :: us, h, 0, rest => by simpa [get] using h.head
  | v :: vs, u :: us, h, t + 1, rest => by simpa [get] using get_rep h.tail t rest

/-- a call that runs in a store -/
theorem callS_sound {AP : AProg} (hA : AOk P AP) {rec : Rec} (hrec : SimRec P rec) {f : FuncId} {args : List AVal} {r : AVal} {S' : Store} (h : callS AP rec f args S = some (r, S'))
    (hS : RS A κ S w) {vs : List Value} (hv : RepV κ (Avoid A κ) w args vs) :
    Does P f vs.toArray w fun v w' => ∃ κ', Ext κ w κ' w' ∧ RS A κ' S' w' ∧ Rep κ' (Avoid A κ') w' r v := by
  unfold callS at h
  split at h
  · cases h
  · rename_i af haf
    split at h
    · rename_i hlen
      split at h
      · rename_i res hres
        obtain ⟨ex, st'⟩ := res
        obtain ⟨fn, b, h1, h2, h3, h4, h5, h6⟩ := compileAt_spec (hA.fn f af haf)
        refine .inl ⟨fn, h1, h3, by simp [h2], calls_of_wp h1 h2 ?_⟩
        have hF : RF A κ w (max af.nargs af.N) args { tmps := vs.toArray ++ Array.replicate (fn.ntmps - vs.toArray.size) undef, defers := [] } := by
          have hl : vs.length = af.nargs := by rw [← hlen]; exact hv.1.symm
          refine ⟨rfl, by simp [hl, h6]; omega, fun t => ?_⟩
          have := get_rep hv t (List.replicate (fn.ntmps - vs.length) undef)
          simp only [Act.eval]
          rw [Array.getD_eq_getD_getElem?]
          have e : (vs.toArray ++ Array.replicate (fn.ntmps - vs.toArray.size) undef)[t]? = (vs ++ List.replicate (fn.ntmps - vs.length) undef)[t]? := by
            rw [← Array.getElem?_toList]; simp
          rw [e]; exact this
        refine wp_mono (hrec _ b af.body ⟨args, S⟩ ex st' h4 hres A κ _ w hS hF) ?_
        rintro e a' w' ⟨rfl, κ', k1, k2, k3⟩
        cases ex with
        | exit id => simp [finish] at h
        | normal =>
          simp only [finish] at h
          split at h
          · rename_i us hus
            cases h
            obtain ⟨v, g1, g2⟩ := results_spec (P := P) k2 k3 h5 hus
            exact ⟨k3.defers, v, g1, v, rfl, κ', k1, k2, g2⟩
          · cases h
        | ret =>
          simp only [finish] at h
          split at h
          · rename_i us hus
            cases h
            obtain ⟨v, g1, g2⟩ := results_spec (P := P) k2 k3 h5 hus
            exact ⟨k3.defers, v, g1, v, rfl, κ', k1, k2, g2⟩
          · cases h
      · cases h
    · cases h

end

end Go.Eng

/- Calls by themselves, calls that are handed blocks. -/
namespace Go.Eng
open Go

section
variable {P : Program} {A : Nat → Prop} {κ κ' : Kap} {S : Store} {w w' : World} {T T' : Nat → Prop}

section
variable (hT : ∀ c, ¬ T c → ¬ T' c)
include hT
mutual
theorem rep_noref : ∀ (a : AVal) (v : Value), a.noref = true → Rep κ T w a v → Rep κ' T' w a v
  | .undef, _, _, _ => trivial
  | .bool _, _, _, h => h
  | .int _ _, _, _, h => h
  | .flt _ _, _, _, h => h
  | .str _, _, _, h => h
  | .ptr b i f, v, hc, h => by simp [AVal.noref] at hc
  | .rptr cs, v, hc, h => by
    obtain ⟨cb, o, h1, h2, h3, h4⟩ := h
    exact ⟨cb, o, h1, h2, hT _ h3, repL_noref cs _ (by simpa [AVal.noref] using hc) h4⟩
  | .nilp, _, _, h => h
  | .imm rows, v, hc, h => by
    obtain ⟨a, len, cap, h1, h2, h3, hn, h4⟩ := h
    refine ⟨a, len, cap, h1, h2, h3, hn, fun hr => ?_⟩
    obtain ⟨sz, cb, o, h5, h6, h7, h8⟩ := h4 hr
    exact ⟨sz, cb, o, h5, h6, hT _ h7, repLL_noref rows sz _ (by simpa [AVal.noref] using hc) h8⟩
  | .lim rows, v, hc, h => by
    obtain ⟨a, len, cap, h1, h2, h3, hn, h4⟩ := h
    refine ⟨a, len, cap, h1, h2, h3, hn, fun hr => ?_⟩
    obtain ⟨sz, cb, o, h5, h6, h7, h8⟩ := h4 hr
    exact ⟨sz, cb, o, h5, h6, hT _ h7, repLL_noref rows sz _ (by simpa [AVal.noref] using hc) h8⟩
  | .nils, _, _, h => h
  | .enil, _, _, h => h
  | .view .., _, hc, _ => by simp [AVal.noref] at hc
  | .aview .., _, hc, _ => by simp [AVal.noref] at hc
  | .fn f a b, v, hc, h => by
    obtain ⟨x, y, h1, h2, h3, h4, h5⟩ := h
    simp only [AVal.noref, Bool.and_eq_true] at hc
    exact ⟨x, y, h1, h2, h3, repL_noref a _ hc.1 h4, repL_noref b _ hc.2 h5⟩
  | .nilfn, _, _, h => h
  | .iface t u, v, hc, h => by
    obtain ⟨x, h1, h2⟩ := h
    exact ⟨x, h1, rep_noref u x (by simpa [AVal.noref] using hc) h2⟩
  | .niliface, _, _, h => h
  | .agg cs, v, hc, h => by
    obtain ⟨xs, h1, h2, h3⟩ := h
    exact ⟨xs, h1, h2, repL_noref cs _ (by simpa [AVal.noref] using hc) h3⟩
  | .tuple cs, v, hc, h => by
    obtain ⟨xs, h1, h2, h3⟩ := h
    exact ⟨xs, h1, h2, repL_noref cs _ (by simpa [AVal.noref] using hc) h3⟩
theorem repL_noref : ∀ (vs : List AVal) (g : Nat → Option Value), norefL vs = true → RepL κ T w vs g → RepL κ' T' w vs g
  | [], _, _, _ => trivial
  | x :: xs, g, hc, h => by
    obtain ⟨⟨v, h1, h2⟩, h3⟩ := h
    simp only [norefL, Bool.and_eq_true] at hc
    exact ⟨⟨v, h1, rep_noref x v hc.1 h2⟩, repL_noref xs _ hc.2 h3⟩
theorem repLL_noref : ∀ (vs : List (List AVal)) (sz : Nat) (g : Nat → Option Value), norefLL vs = true → RepLL κ T w vs sz g → RepLL κ' T' w vs sz g
  | [], _, _, _, _ => trivial
  | x :: xs, sz, g, hc, h => by
    obtain ⟨h1, h2, h3⟩ := h
    simp only [norefLL, Bool.and_eq_true] at hc
    exact ⟨h1, repL_noref x _ hc.1 h2, repLL_noref xs sz _ hc.2 h3⟩
end
end

mutual
theorem rep_flat : ∀ (a : AVal) (v : Value), a.flat = true → Rep κ T w a v → Rep κ' T' w a v
  | .undef, _, _, _ => trivial
  | .bool _, _, _, h => h
  | .int _ _, _, _, h => h
  | .flt _ _, _, _, h => h
  | .str _, _, _, h => h
  | .ptr .., v, hc, h => by simp [AVal.flat] at hc
  | .rptr _, v, hc, h => by simp [AVal.flat] at hc
  | .nilp, _, _, h => h
  | .imm _, v, hc, h => by simp [AVal.flat] at hc
  | .lim _, v, hc, h => by simp [AVal.flat] at hc
  | .nils, _, _, h => h
  | .enil, _, _, h => h
  | .view .., _, hc, _ => by simp [AVal.flat] at hc
  | .aview .., _, hc, _ => by simp [AVal.flat] at hc
  | .fn .., v, hc, h => by simp [AVal.flat] at hc
  | .nilfn, _, _, h => h
  | .iface t u, v, hc, h => by
    obtain ⟨x, h1, h2⟩ := h
    exact ⟨x, h1, rep_flat u x (by simpa [AVal.flat] using hc) h2⟩
  | .niliface, _, _, h => h
  | .agg cs, v, hc, h => by
    obtain ⟨xs, h1, h2, h3⟩ := h
    exact ⟨xs, h1, h2, repL_flat cs _ (by simpa [AVal.flat] using hc) h3⟩
  | .tuple cs, v, hc, h => by
    obtain ⟨xs, h1, h2, h3⟩ := h
    exact ⟨xs, h1, h2, repL_flat cs _ (by simpa [AVal.flat] using hc) h3⟩
theorem repL_flat : ∀ (vs : List AVal) (g : Nat → Option Value), flatL vs = true → RepL κ T w vs g → RepL κ' T' w vs g
  | [], _, _, _ => trivial
  | x :: xs, g, hc, h => by
    obtain ⟨⟨v, h1, h2⟩, h3⟩ := h
    simp only [flatL, Bool.and_eq_true] at hc
    exact ⟨⟨v, h1, rep_flat x v hc.1 h2⟩, repL_flat xs _ hc.2 h3⟩
end

/-- the empty store -/
theorem rs_empty (hA : ∀ c, A c → c < w.heap.size) : RS A [] [] w :=
  ⟨rfl, fun b h => by simp at h, fun b blk h => by simp at h, fun b b' x x' h => by simp at h, fun c hc => ⟨hA c hc, by rintro ⟨b, x, h, _⟩; simp at h⟩⟩

theorem avoid_nil (c : Nat) : Avoid T [] c ↔ T c := by
  constructor
  · rintro (h | ⟨b, x, h, _⟩)
    · exact h
    · simp at h
  · exact .inl

theorem RS.avoid_lt (h : RS A κ S w) (c : Nat) (hc : Avoid A κ c) : c < w.heap.size := by
  rcases hc with hc | ⟨b, x, hb, rfl⟩
  · exact (h.av c hc).1
  · exact h.lt hb

/-- a callee has made memory of its own -/
theorem rs_grow (h : RS A κ S w) {κ1 : Kap} (he : Ext [] w κ1 w') : Ext κ w κ w' ∧ RS A κ S w' := by
  have hold : ∀ c, c < w.heap.size → w'.heap[c]? = w.heap[c]? := fun c hc => (he.keep c (by rintro ⟨b, x, h, _⟩; simp at h) hc).2
  have hext : Ext κ w κ w' := ⟨fun _ e hb => ⟨e, hb, .inr rfl⟩, he.size, fun c hn hl => ⟨hn, hold c hl⟩, he.shape, he.env⟩
  refine ⟨hext, ⟨h.len, h.dead, fun b blk hb => ?_, h.inj, fun c hc => ⟨Nat.lt_of_lt_of_le (h.av c hc).1 he.size, (h.av c hc).2⟩⟩⟩
  obtain ⟨x, hx, hok⟩ := h.live b blk hb
  exact ⟨x, hx, hok.mono hext (hold _ (h.lt hx))⟩

/-- a call by itself -/
theorem callI_sound {AP : AProg} (hA : AOk P AP) {rec : Rec} (hrec : SimRec P rec) {f : FuncId} {all as : List AVal} {r : AVal} {ids : List Nat} {vs : List Value} (hS : RS A κ S w)
    (hf : (RM.mapL (frz frzDepth) all).run S = some (as, ids)) (h : callI AP rec f as = some r) (hn : norefL all = true ∨ r.flat = true) (hv : RepV κ (Avoid A κ) w all vs) :
    Does P f vs.toArray w fun v w' => Ext κ w κ w' ∧ RS A κ S w' ∧ Rep κ (Avoid A κ) w' r v := by
  unfold callI at h
  split at h
  · rename_i r0 S1 hc
    split at h
    · rename_i r' ids' hr
      cases h
      by_cases hno : norefL all = true
      · have hargs : RepV [] (Avoid (Avoid A κ) []) w as vs := frzL_rep (T' := Avoid (Avoid A κ) []) hS (fun c hc h => hc ((avoid_nil c).1 h)) hf (.inl hno) hv
        refine (callS_sound hA hrec hc (rs_empty (A := Avoid A κ) (fun c hc => hS.avoid_lt c hc)) hargs).mono ?_
        rintro v w' ⟨κ1, k1, k2, k3⟩
        obtain ⟨g1, g2⟩ := rs_grow hS k1
        exact ⟨g1, g2, (frz_rep (T' := Avoid A κ) k2 (fun c hc h => hc (.inl h)) _ _ _ _ _ hr (.inr fun b y hb hT => (k2.av _ hT).2 ⟨b, y, hb, rfl⟩) k3).2⟩
      · have hfl := hn.resolve_left hno
        have hargs : RepV [] (Avoid A []) w as vs := frzL_rep (T' := Avoid A []) hS (fun c hc h => hc (.inl ((avoid_nil c).1 h))) hf
          (.inr fun b y hb hT => (hS.av _ ((avoid_nil _).1 hT)).2 ⟨b, y, hb, rfl⟩) hv
        refine (callS_sound hA hrec hc (rs_empty (A := A) (fun c hc => (hS.av c hc).1)) hargs).mono ?_
        rintro v w' ⟨κ1, k1, k2, k3⟩
        obtain ⟨g1, g2⟩ := rs_grow hS k1
        have := (frz_rep (κ2 := κ) (T' := A) k2 (fun c hc h => hc (.inl h)) _ _ _ _ _ hr (.inr fun b y hb hT => (k2.av _ hT).2 ⟨b, y, hb, rfl⟩) k3).2
        exact ⟨g1, g2, rep_flat _ _ hfl this⟩
    · cases h
  · cases h

/-! blocks that are handed over -/

def killK : Kap → List Nat → Kap
  | κ, [] => κ
  | κ, b :: r => killK (κ.set b (some none)) r

theorem killK_length : ∀ (ids : List Nat) (κ : Kap), (killK κ ids).length = κ.length
  | [], _ => rfl
  | b :: r, κ => by rw [killK, killK_length r]; simp
theorem killK_get : ∀ (ids : List Nat) (κ : Kap) (j : Nat), (killK κ ids)[j]? = if j ∈ ids ∧ j < κ.length then some (some none) else κ[j]?
  | [], κ, j => by simp [killK]
  | b :: r, κ, j => by
    rw [killK, killK_get r, set_get]
    by_cases h1 : j ∈ r
    · by_cases h2 : j < κ.length <;> simp [h1, h2]
      intro hb; omega
    · by_cases h2 : b = j
      · subst h2; by_cases h3 : b < κ.length <;> simp [h1, h3]
      · have : ¬ j = b := fun h => h2 h.symm
        simp [h1, h2, this]

theorem applyWr_none_length : ∀ (ids : List Nat) (S : Store), (applyWr S (ids.map fun b => (b, none))).length = S.length
  | [], _ => rfl
  | b :: r, S => by rw [List.map_cons, applyWr, applyWr_none_length r]; simp
theorem applyWr_none_get : ∀ (ids : List Nat) (S : Store) (j : Nat), (applyWr S (ids.map fun b => (b, none)))[j]? = if j ∈ ids ∧ j < S.length then some none else S[j]?
  | [], S, j => by simp [applyWr]
  | b :: r, S, j => by
    rw [List.map_cons, applyWr, applyWr_none_get r, set_get]
    by_cases h1 : j ∈ r
    · by_cases h2 : j < S.length <;> simp [h1, h2]
      intro hb; omega
    · by_cases h2 : b = j
      · subst h2; by_cases h3 : b < S.length <;> simp [h1, h3]
      · have : ¬ j = b := fun h => h2 h.symm
        simp [h1, h2, this]

theorem nodup_spec : ∀ {l : List Nat}, nodup l = true → ∀ (i j : Nat) x, l[i]? = some x → l[j]? = some x → i = j
  | [], _, i, j, x, h, _ => by simp at h
  | y :: l, hn, i, j, x, hi, hj => by
    simp only [nodup, Bool.and_eq_true, Bool.not_eq_true'] at hn
    have hmem : ∀ (k : Nat), l[k]? = some y → False := fun k hk => by
      have := List.mem_of_getElem? hk
      simp [List.contains_eq_mem, this] at hn
    cases i with
    | zero =>
      cases j with
      | zero => rfl
      | succ j => simp at hi hj; subst hi; exact (hmem j hj).elim
    | succ i =>
      cases j with
      | zero => simp at hi hj; subst hj; exact (hmem i hi).elim
      | succ j => simp at hi hj; rw [nodup_spec hn.2 i j x hi hj]

theorem moveArgs_spec (hS : RS A κ S w) : ∀ (args : List AVal) (k : Nat) (as : List AVal) (blks : List ABlock) (ids l : List Nat), (moveArgs args k).run S = some ((as, blks, ids), l) →
    blks.length = ids.length ∧ (∀ (i : Nat) b, ids[i]? = some b → ∃ blk x, blks[i]? = some blk ∧ S[b]? = some (some blk) ∧ κ[b]? = some (some (some x)) ∧ norefLL blk.rows = true) ∧
    ∀ (κ0 : Kap) (T0 : Nat → Prop), (∀ (i : Nat) b, ids[i]? = some b → κ0[k + i]? = κ[b]?) → (∀ c, ¬ Avoid A κ c → ¬ T0 c) → ∀ vs : List Value, RepV κ (Avoid A κ) w args vs → RepV κ0 T0 w as vs
  | [], k, as, blks, ids, l, h => by
    simp [moveArgs, RM.run] at h
    obtain ⟨⟨rfl, rfl, rfl⟩, -⟩ := h
    refine ⟨rfl, fun i b h => by simp at h, fun κ0 T0 _ _ vs hv => ?_⟩
    have := List.eq_nil_of_length_eq_zero (by simpa using hv.1.symm); subst this; exact .nil
  | v :: args, k, as, blks, ids, l, h => by
    simp only [moveArgs] at h
    split at h
    · rename_i hn
      obtain ⟨⟨as', blks', ids'⟩, i1, i2, h1, h2, -⟩ := run_bind h
      simp only [RM.run, Option.some.injEq, Prod.mk.injEq] at h2
      obtain ⟨⟨rfl, rfl, rfl⟩, -⟩ := h2
      obtain ⟨g1, g2, g3⟩ := moveArgs_spec hS args k as' blks' ids' _ h1
      refine ⟨g1, g2, fun κ0 T0 hκ hT vs hv => ?_⟩
      cases vs with
      | nil => have := hv.1; simp at this
      | cons u us => exact .cons (rep_noref hT _ _ hn hv.head) (g3 κ0 T0 hκ hT us hv.tail)
    · rename_i hnn
      clear hnn
      cases v <;> simp only at h
      case view b off len full =>
        obtain ⟨blk, l2, hb, h, -⟩ := run_rd h
        simp only at h
        split at h
        · rename_i hrn
          obtain ⟨⟨as', blks', ids'⟩, i1, i2, h1, h2, -⟩ := run_bind h
          simp only [RM.run, Option.some.injEq, Prod.mk.injEq] at h2
          obtain ⟨⟨rfl, rfl, rfl⟩, -⟩ := h2
          obtain ⟨g1, g2, g3⟩ := moveArgs_spec hS args (k + 1) as' blks' ids' _ h1
          obtain ⟨x, hx, _⟩ := hS.live b blk hb
          refine ⟨by simp [g1], fun i b' hb' => ?_, fun κ0 T0 hκ hT vs hv => ?_⟩
          · cases i with
            | zero => simp at hb'; subst hb'; exact ⟨blk, x, rfl, hb, hx, hrn⟩
            | succ i => exact g2 i b' (by simpa using hb')
          · cases vs with
            | nil => have := hv.1; simp at this
            | cons u us =>
              refine .cons ?_ (g3 κ0 T0 (fun i b' hb' => by have := hκ (i + 1) b' (by simpa using hb'); rwa [show k + (i + 1) = k + 1 + i by omega] at this) hT us hv.tail)
              obtain ⟨ev, cb, of, cap, q1, q2, q3⟩ := hv.head
              have h0 := hκ 0 b rfl
              rw [Nat.add_zero] at h0
              exact ⟨ev, cb, of, cap, by rw [h0]; exact q1, q2, q3⟩
        · exact (run_fail h).elim
      all_goals exact (run_fail h).elim

end

end Go.Eng

/- A call in the form of an operation. -/
namespace Go.Eng
open Go

section
variable {P : Program} {A : Nat → Prop} {κ κ' : Kap} {S : Store} {w w' : World} {T T' : Nat → Prop} {slot : Nat} {e : Eff} {rds : List Nat}

/-- the callee of handed blocks has ended: its world is the caller's -/
theorem keep_back (hS : RS A κ S w) {ids : List Nat} {κ0 κ1 : Kap} {S1 : Store} (hκ0 : ∀ (i : Nat), κ0[i]? = (ids[i]?).bind fun b => κ[b]?) (hid : ∀ (i : Nat) b, ids[i]? = some b → ∃ x, κ[b]? = some (some (some x)))
    (k1 : Ext κ0 w κ1 w') (k2 : RS (fun c => Avoid A κ c ∧ ¬ Trk κ0 c) κ1 S1 w') :
    Ext κ w (killK κ ids) w' ∧ RS A (killK κ ids) (applyWr S (ids.map fun b => (b, none))) w' ∧ (∀ c, Avoid A (killK κ ids) c → Avoid A κ c ∧ ¬ Trk κ0 c) := by
  have h0 : ∀ c, Trk κ0 c → Trk κ c := by
    rintro c ⟨i, x, hi, hx⟩
    rw [hκ0] at hi
    cases hb : ids[i]? with
    | none => simp [hb] at hi
    | some b => simp [hb] at hi; exact ⟨b, x, hi, hx⟩
  have hmem : ∀ b, b ∈ ids → ∀ x, κ[b]? = some (some (some x)) → Trk κ0 x.cb := by
    intro b hb x hx
    obtain ⟨i, hi⟩ := List.mem_iff_getElem?.1 hb
    exact ⟨i, x, by rw [hκ0, hi]; simpa using hx, rfl⟩
  have hget : ∀ (j : Nat) x, (killK κ ids)[j]? = some (some (some x)) → j ∉ ids ∧ κ[j]? = some (some (some x)) := by
    intro j x hj
    rw [killK_get] at hj
    split at hj
    · cases hj
    · rename_i hn
      exact ⟨fun h => hn ⟨h, (List.getElem?_eq_some_iff.1 hj).1⟩, hj⟩
  have hun : ∀ (j : Nat) x, j ∉ ids → κ[j]? = some (some (some x)) → ¬ Trk κ0 x.cb := by
    rintro j x hj hx ⟨i, y, hi, hy⟩
    rw [hκ0] at hi
    cases hb : ids[i]? with
    | none => simp [hb] at hi
    | some b =>
      simp [hb] at hi
      have := hS.inj _ _ _ _ hi hx hy
      subst this
      exact hj (List.mem_of_getElem? hb)
  have hextk : Ext κ w (killK κ ids) w' := by
    refine ⟨fun b ev hb => ?_, k1.size, fun c hn hl => ⟨?_, (k1.keep c (fun h => hn (h0 c h)) hl).2⟩, k1.shape, k1.env⟩
    · rw [killK_get]
      split
      · exact ⟨none, rfl, .inl rfl⟩
      · exact ⟨ev, hb, .inr rfl⟩
    · rintro ⟨j, x, hj, hx⟩
      exact hn ⟨j, x, (hget j x hj).2, hx⟩
  refine ⟨hextk, ⟨by rw [killK_length, applyWr_none_length, hS.len], ?_, ?_, ?_, ?_⟩, ?_⟩
  · intro b hb
    rw [applyWr_none_get] at hb
    rw [killK_get, hS.len]
    split at hb
    · rename_i h; rw [if_pos h]; exact .inr rfl
    · rename_i h; rw [if_neg h]; exact hS.dead b hb
  · intro b blk hb
    rw [applyWr_none_get] at hb
    split at hb
    · cases hb
    · rename_i h
      obtain ⟨x, hx, hok⟩ := hS.live b blk hb
      have hl : b < S.length := (List.getElem?_eq_some_iff.1 hb).1
      have hni : b ∉ ids := fun hm => h ⟨hm, hl⟩
      refine ⟨x, by rw [killK_get, hS.len, if_neg h]; exact hx, hok.mono hextk (k1.keep _ (hun b x hni hx) (hS.lt hx)).2⟩
  · intro b b' x x' hb hb' he
    exact hS.inj _ _ _ _ (hget _ _ hb).2 (hget _ _ hb').2 he
  · intro c hc
    refine ⟨Nat.lt_of_lt_of_le (hS.av c hc).1 k1.size, ?_⟩
    rintro ⟨j, x, hj, hx⟩
    exact (hS.av c hc).2 ⟨j, x, (hget j x hj).2, hx⟩
  · rintro c (hc | ⟨j, x, hj, rfl⟩)
    · exact ⟨.inl hc, fun h => (hS.av c hc).2 (h0 c h)⟩
    · obtain ⟨h1, h2⟩ := hget j x hj
      exact ⟨.inr ⟨j, x, h2, rfl⟩, hun j x h1 h2⟩

/-- a block of the callee's comes into the caller's store -/
theorem rs_import (hS : RS A κ S w) (hs : κ[slot]? = some none) {x : KB} {blk : ABlock} (hlt : x.cb < w.heap.size) (hna : ¬ Avoid A κ x.cb)
    (hsz : x.sz = blk.sz) (hrn : x.rn = blk.rows.length) (hcells : ∃ cells el lo hi, w.heap[x.cb]? = some (.cells cells el (lo, hi)) ∧ (∀ i, i < cells.size + (if blk.sz = 1 then 0 else 1) → ¬ (lo ≤ i ∧ i < hi)) ∧ x.sh + blk.rows.length * blk.sz ≤ cells.size)
    (hrep : RepLL (κ.set slot (some (some x))) (Avoid A (κ.set slot (some (some x)))) w blk.rows blk.sz (fun n => w.cell? ⟨x.cb, x.sh + n, none⟩))
    (hpres : ∀ (b : Nat) blk', S[b]? = some (some blk') → ∀ y, κ[b]? = some (some (some y)) → BlkOk κ (Avoid A κ) w y blk' → BlkOk (κ.set slot (some (some x))) (Avoid A (κ.set slot (some (some x)))) w y blk') :
    RS A (κ.set slot (some (some x))) (S.set slot (some blk)) w := by
  have hsl : slot < κ.length := (List.getElem?_eq_some_iff.1 hs).1
  refine ⟨by simp [hS.len], ?_, ?_, ?_, ?_⟩
  · intro j hj
    rw [set_get] at hj
    split at hj
    · cases hj
    · rename_i hn
      rw [set_get, if_neg (by rw [hS.len]; exact hn)]
      exact hS.dead j hj
  · intro j blk' hj
    rw [set_get] at hj
    split at hj
    · rename_i h; obtain ⟨rfl, _⟩ := h; cases hj
      exact ⟨x, by rw [set_get, if_pos ⟨rfl, hsl⟩], hsz, hrn, hcells, hrep⟩
    · rename_i hn
      obtain ⟨y, hy, hok⟩ := hS.live j blk' hj
      exact ⟨y, by rw [set_get, if_neg (by rw [hS.len]; exact hn)]; exact hy, hpres j blk' hj y hy hok⟩
  · intro b b' y y' hb hb' he
    rw [set_get] at hb hb'
    split at hb <;> split at hb'
    · rename_i h1 h2; exact h1.1.symm.trans h2.1
    · cases hb; exact absurd (.inr ⟨b', y', hb', he.symm⟩) hna
    · cases hb'; exact absurd (.inr ⟨b, y, hb, he⟩) hna
    · exact hS.inj _ _ _ _ hb hb' he
  · intro c hc
    refine ⟨(hS.av c hc).1, ?_⟩
    rintro ⟨j, y, hj, rfl⟩
    rw [set_get] at hj
    split at hj
    · cases hj; exact hna (.inl hc)
    · exact (hS.av _ hc).2 ⟨j, y, hj, rfl⟩

/-- what an operation that is a call has done -/
def CRes (A : Nat → Prop) (κ : Kap) (S : Store) (w : World) (slot : Nat) (e : Eff) (v : Value) (w' : World) : Prop :=
  ∃ κ', Ext κ w κ' w' ∧ RS A κ' (effS slot e S) w' ∧ Rep κ' (Avoid A κ') w' e.val v ∧ ∀ (j : Nat), j ≠ slot → κ[j]? = some none → κ'[j]? = some none

theorem givesNone_spec {AP : AProg} (hA : AOk P AP) {rec : Rec} (hrec : SimRec P rec) {f : FuncId} {x : AVal} {v : Value} (hS : RS A κ S w) (h : givesNone AP rec f x = true) (hx : x = .nils ∨ x = .enil) (hv : Rep κ (Avoid A κ) w x v) :
    Does P f #[v] w fun u w' => CRes A κ S w slot ⟨.lim [], none, []⟩ u w' := by
  unfold givesNone at h
  have hv' : RepV [] (Avoid (Avoid A κ) []) w [x] [v] := .cons (by rcases hx with rfl | rfl <;> exact hv) .nil
  split at h
  · rename_i S1 hc
    refine (callS_sound hA hrec hc (rs_empty (A := Avoid A κ) (fun c hc => hS.avoid_lt c hc)) hv').mono ?_
    rintro u w' ⟨κ1, k1, k2, k3⟩
    obtain ⟨g1, g2⟩ := rs_grow hS k1
    have k3 : u = .slice none 0 0 := k3
    exact ⟨κ, g1, g2, ⟨none, 0, 0, k3, rfl, rfl, fun _ => rfl, fun h => absurd rfl h⟩, fun _ _ h => h⟩
  · rename_i S1 hc
    refine (callS_sound hA hrec hc (rs_empty (A := Avoid A κ) (fun c hc => hS.avoid_lt c hc)) hv').mono ?_
    rintro u w' ⟨κ1, k1, k2, p, n, c, k3, k4, k5, k6, _⟩
    obtain ⟨g1, g2⟩ := rs_grow hS k1
    exact ⟨κ, g1, g2, ⟨p, n, c, k3, k4, k5, k6, fun h => absurd rfl h⟩, fun _ _ h => h⟩
  · cases h

theorem semKeep_sound {AP : AProg} (hA : AOk P AP) {rec : Rec} (hrec : SimRec P rec) {f : FuncId} {all : List AVal} {vs : List Value} (hS : RS A κ S w) (hs : κ[slot]? = some none)
    (h : (semKeep AP rec slot f all).run S = some (e, rds)) (hv : RepV κ (Avoid A κ) w all vs) : Does P f vs.toArray w fun v w' => CRes A κ S w slot e v w' := by
  unfold semKeep at h
  split at h
  · rename_i hsp
    simp only [Bool.and_eq_true] at hsp
    split at h
    · rename_i hg
      simp only [Bool.and_eq_true] at hg
      simp only [RM.run, Option.some.injEq, Prod.mk.injEq] at h
      obtain ⟨rfl, -⟩ := h
      match all, vs, hsp.2, hv with
      | [x], [v], hx, hv =>
        have hx1 := hv.head
        have hcase : Rep κ (Avoid A κ) w .nils v ∨ Rep κ (Avoid A κ) w .enil v := by
          have : ∃ p c, v = .slice p 0 c ∧ (p = none → c = 0) := by
            cases x <;> simp only [isSplitArg, isEmptyS, Bool.false_eq_true] at hx
            case imm rows =>
              cases rows with
              | nil => obtain ⟨p, n, c, h1, h2, h3, h4, _⟩ := hx1; exact ⟨p, c, by rw [h1, h2]; rfl, h4⟩
              | cons r rs => simp at hx
            case lim rows =>
              cases rows with
              | nil => obtain ⟨p, n, c, h1, h2, h3, h4, _⟩ := hx1; exact ⟨p, c, by rw [h1, h2]; rfl, h4⟩
              | cons r rs => simp at hx
          obtain ⟨p, c, rfl, hpc⟩ := this
          cases p with
          | none => rw [hpc rfl]; exact .inl rfl
          | some ad => exact .inr ⟨ad, c, rfl⟩
        rcases hcase with hc | hc
        · exact givesNone_spec hA hrec hS hg.1 (.inl rfl) hc
        · exact givesNone_spec hA hrec hS hg.2 (.inr rfl) hc
      | [x], [], _, hv => have := hv.1; simp at this
      | [x], _ :: _ :: _, _, hv => have := hv.1; simp at this
      | [], _, hx, _ => simp [isSplitArg] at hx
      | _ :: _ :: _, _, hx, _ => simp [isSplitArg] at hx
    · exact (run_fail h).elim
  · obtain ⟨⟨as, blks, ids⟩, i1, i2, h1, h2, -⟩ := run_bind h
    simp only at h2
    clear h
    split at h2
    · rename_i hnd
      split at h2
      · rename_i v0 S1 hc
        obtain ⟨g1, g2, g3⟩ := moveArgs_spec hS all 0 as blks ids _ h1
        let κ0 : Kap := (List.range ids.length).map fun i => ((ids[i]?).bind fun b => κ[b]?).getD none
        have hid : ∀ (i : Nat) b, ids[i]? = some b → ∃ x, κ[b]? = some (some (some x)) := fun i b hb => by
          obtain ⟨_, x, _, _, hx, _⟩ := g2 i b hb; exact ⟨x, hx⟩
        have hκ0 : ∀ (i : Nat), κ0[i]? = (ids[i]?).bind fun b => κ[b]? := by
          intro i
          simp only [κ0, List.getElem?_map]
          rcases Nat.lt_or_ge i ids.length with hl | hl
          · rw [List.getElem?_range hl]
            have hi : ids[i]? = some ids[i] := by simp [hl]
            obtain ⟨x, hx⟩ := hid i _ hi
            simp only [Option.map_some, hi, Option.bind_some, hx, Option.getD_some]
          · rw [List.getElem?_eq_none (by simp; exact hl), List.getElem?_eq_none hl]; rfl
        have h0 : ∀ c, Trk κ0 c → Trk κ c := by
          rintro c ⟨i, x, hi, hx⟩
          rw [hκ0] at hi
          cases hb : ids[i]? with
          | none => simp [hb] at hi
          | some b => simp [hb] at hi; exact ⟨b, x, hi, hx⟩
        have hav : ∀ c, ¬ Avoid A κ c → ¬ Avoid (fun c => Avoid A κ c ∧ ¬ Trk κ0 c) κ0 c := by
          rintro c hc (h | h)
          · exact hc h.1
          · exact hc (.inr (h0 c h))
        have hlen0 : κ0.length = ids.length := by simp [κ0]
        have hS0 : RS (fun c => Avoid A κ c ∧ ¬ Trk κ0 c) κ0 (blks.map some) w := by
          refine ⟨by simp [hlen0, g1], ?_, ?_, ?_, fun c hc => ⟨hS.avoid_lt c hc.1, hc.2⟩⟩
          · intro i hi
            rw [List.getElem?_map] at hi
            cases hb : blks[i]? <;> simp [hb] at hi
          · intro i blk hi
            rw [List.getElem?_map] at hi
            cases hb : blks[i]? with
            | none => simp [hb] at hi
            | some blk' =>
              simp [hb] at hi; subst hi
              have hl : i < ids.length := by rw [← g1]; exact (List.getElem?_eq_some_iff.1 hb).1
              have hi : ids[i]? = some ids[i] := by simp [hl]
              obtain ⟨blk2, x, q1, q2, q3, q4⟩ := g2 i _ hi
              rw [hb] at q1; cases q1
              obtain ⟨x', hx', hok⟩ := hS.live _ _ q2
              rw [q3] at hx'; cases hx'
              refine ⟨x, by rw [hκ0, hi]; simpa using q3, hok.sz, hok.rn, hok.cells, repLL_noref hav _ _ _ q4 hok.rep⟩
          · intro i j x y hi hj he
            rw [hκ0] at hi hj
            cases hbi : ids[i]? with
            | none => simp [hbi] at hi
            | some bi =>
              cases hbj : ids[j]? with
              | none => simp [hbj] at hj
              | some bj =>
                simp [hbi] at hi; simp [hbj] at hj
                have := hS.inj _ _ _ _ hi hj he
                subst this
                exact nodup_spec hnd i j _ hbi hbj
        have hargs := g3 κ0 (Avoid (fun c => Avoid A κ c ∧ ¬ Trk κ0 c) κ0) (fun i b hb => by rw [Nat.zero_add, hκ0, hb]; rfl) hav vs hv
        refine (callS_sound hA hrec hc hS0 hargs).mono ?_
        rintro u w' ⟨κ1, k1, k2, k3⟩
        obtain ⟨b1, b2, b3⟩ := keep_back (S := S) hS hκ0 hid k1 k2
        have hkfree : ∀ (j : Nat), κ[j]? = some none → (killK κ ids)[j]? = some none := by
          intro j hj
          rw [killK_get, if_neg]
          · exact hj
          · rintro ⟨hm, _⟩
            obtain ⟨i, hi⟩ := List.mem_iff_getElem?.1 hm
            obtain ⟨x, hx⟩ := hid i j hi
            rw [hj] at hx; cases hx
        unfold keepRes at h2
        split at h2
        · rename_i j off len full
          split at h2
          · rename_i blk hj
            split at h2
            · rename_i hrn
              simp only [RM.run, Option.some.injEq, Prod.mk.injEq] at h2
              obtain ⟨rfl, -⟩ := h2
              obtain ⟨x1, hx1, hok1⟩ := k2.live j blk hj
              have hs' := hkfree slot hs
              have hna : ¬ Avoid A (killK κ ids) x1.cb := fun hc => (k2.av _ (b3 _ hc)).2 ⟨j, x1, hx1, rfl⟩
              have htrk : ∀ c, Avoid A ((killK κ ids).set slot (some (some x1))) c → Avoid (fun c => Avoid A κ c ∧ ¬ Trk κ0 c) κ1 c := by
                rintro c (hc | ⟨i, y, hi, rfl⟩)
                · exact .inl (b3 c (.inl hc))
                · rw [set_get] at hi
                  split at hi
                  · cases hi; exact .inr ⟨j, x1, hx1, rfl⟩
                  · exact .inl (b3 _ (.inr ⟨i, y, hi, rfl⟩))
              have hklen : slot < (killK κ ids).length := (List.getElem?_eq_some_iff.1 hs').1
              have hext2 : Ext κ w ((killK κ ids).set slot (some (some x1))) w' := by
                refine ⟨fun b ev hb => ?_, b1.size, fun c hn hl => ⟨?_, (b1.keep c hn hl).2⟩, b1.shape, b1.env⟩
                · obtain ⟨ev', e1, e2⟩ := b1.kle b ev hb
                  refine ⟨ev', ?_, e2⟩
                  rw [set_get, if_neg]
                  · exact e1
                  · rintro ⟨rfl, _⟩; rw [hs'] at e1; cases e1
                · rintro ⟨i, y, hi, hy⟩
                  rw [set_get] at hi
                  split at hi
                  · cases hi
                    exact (k1.keep c (fun h => hn (h0 c h)) hl).1 ⟨j, x1, hx1, hy⟩
                  · exact (b1.keep c hn hl).1 ⟨i, y, hi, hy⟩
              have hsub : ∀ c, ¬ Avoid (fun c => Avoid A κ c ∧ ¬ Trk κ0 c) κ1 c → ¬ Avoid A ((killK κ ids).set slot (some (some x1))) c := fun c hc h => hc (htrk c h)
              refine ⟨(killK κ ids).set slot (some (some x1)), hext2, ?_, ?_, fun i hi hn => ?_⟩
              · refine rs_import b2 hs' (k2.lt hx1) hna hok1.sz hok1.rn hok1.cells (repLL_noref hsub _ _ _ hrn hok1.rep) ?_
                intro b blk' hb y hy _
                rw [applyWr_none_get] at hb
                split at hb
                · cases hb
                · rename_i hnn
                  obtain ⟨y', hy', hok⟩ := hS.live b blk' hb
                  rw [killK_get] at hy
                  split at hy
                  · cases hy
                  · rw [hy'] at hy; cases hy
                    have hl : b < S.length := (List.getElem?_eq_some_iff.1 hb).1
                    have hni : b ∉ ids := fun hm => hnn ⟨hm, hl⟩
                    have hnt : ¬ Trk κ0 y.cb := by
                      rintro ⟨i, z, hi, hz⟩
                      rw [hκ0] at hi
                      cases hbi : ids[i]? with
                      | none => simp [hbi] at hi
                      | some bi =>
                        simp [hbi] at hi
                        have := hS.inj _ _ _ _ hi hy' hz
                        subst this
                        exact hni (List.mem_of_getElem? hbi)
                    exact hok.mono hext2 (k1.keep _ hnt (hS.lt hy')).2
              · obtain ⟨ev, cb, of, cap, q1, rfl, q3⟩ := k3
                rw [hx1] at q1; cases q1
                obtain ⟨p1, p2, p3, p4, p5⟩ := q3 x1 rfl
                exact ⟨some x1, cb, of, cap, slot_get hs', rfl, fun y hy => by cases hy; exact ⟨p1, p2, p3, p4, p5⟩⟩
              · rw [set_get, if_neg (fun h => hi h.1.symm)]
                exact hkfree i hn
            · exact (run_fail h2).elim
          · exact (run_fail h2).elim
        · rename_i hr0
          split at h2
          · rename_i hrn
            simp only [RM.run, Option.some.injEq, Prod.mk.injEq] at h2
            obtain ⟨rfl, -⟩ := h2
            exact ⟨killK κ ids, b1, b2, rep_noref (fun c hc h => hc (.inl (b3 c h))) _ _ hrn k3, fun j _ hj => hkfree j hj⟩
          · exact (run_fail h2).elim
      · exact (run_fail h2).elim
    · exact (run_fail h2).elim

end

end Go.Eng

/- Operations of all kinds, in order. -/
namespace Go.Eng
open Go

section
variable {P : Program} {A : Nat → Prop} {κ κ' : Kap} {S : Store} {w w' : World} {slot : Nat} {e : Eff} {rds : List Nat} {N : Nat} {fr : List AVal} {a : Act} {o : Oper}
variable {AP : AProg} (hA : AOk P AP) {rec : Rec} (hrec : SimRec P rec)
include hA hrec

theorem semCall_sound {fv : AVal} {args : List AVal} {fV : Value} {vs : List Value} (hS : RS A κ S w) (hs : κ[slot]? = some none) (h : (semCall AP rec slot fv args).run S = some (e, rds))
    (hf : Rep κ (Avoid A κ) w fv fV) (hv : RepV κ (Avoid A κ) w args vs) :
    ∃ f first cap, fV = .func (.func f) first cap ∧ Does P f (first ++ vs.toArray ++ cap) w fun v w' => CRes A κ S w slot e v w' := by
  unfold semCall at h
  split at h
  · rename_i f first cap
    obtain ⟨x, y, rfl, hx1, hy1, hx2, hy2⟩ := hf
    obtain ⟨xs, g1, g2⟩ := repL_vals _ _ hx2
    obtain ⟨ys, g3, g4⟩ := repL_vals _ _ hy2
    have hxs : RepV κ (Avoid A κ) w first x.toList := by
      refine ⟨by simp [hx1], fun i b v hb hv => ?_⟩
      obtain ⟨u, q1, q2⟩ := g1.get hb
      have := g2 i u q1
      simp at hv
      rw [this] at hv; cases hv; exact q2
    have hys : RepV κ (Avoid A κ) w cap y.toList := by
      refine ⟨by simp [hy1], fun i b v hb hv => ?_⟩
      obtain ⟨u, q1, q2⟩ := g3.get hb
      have := g4 i u q1
      simp at hv
      rw [this] at hv; cases hv; exact q2
    have hall := (hxs.append hv).append hys
    have harr : x ++ vs.toArray ++ y = (x.toList ++ vs ++ y.toList).toArray := by apply Array.ext'; simp
    refine ⟨f, x, y, rfl, ?_⟩
    rw [harr]
    split at h
    · rename_i p hp
      exact hA.prim f p hp A κ S w slot _ _ e rds h hS hs hall
    · split at h
      · exact semKeep_sound hA hrec hS hs h hall
      · obtain ⟨as, i1, i2, h1, h2, -⟩ := run_bind h
        split at h2
        · rename_i r hr
          split at h2
          · rename_i hn
            simp only [RM.run, Option.some.injEq, Prod.mk.injEq] at h2
            obtain ⟨rfl, -⟩ := h2
            refine (callI_sound hA hrec hS h1 hr (by simpa using hn) hall).mono ?_
            rintro v w' ⟨k1, k2, k3⟩
            exact ⟨κ, k1, k2, k3, fun _ _ h => h⟩
          · exact (run_fail h2).elim
        · exact (run_fail h2).elim
  · exact (run_fail h).elim

/-- any operation that has its slot -/
theorem semX_wp {ao : AOp} (hc : compileOp P o.op = some ao) (hS : RS A κ S w) (hF : RF A κ w N fr a) (hs : allocs ao = true → κ[slot]? = some none) (h : (semX AP rec slot (opd fr) ao).run S = some (e, rds))
    {K : Act → World → Prop} {Q : Exit → Act → World → Prop}
    (hk : ∀ v w' κ', Ext κ w κ' w' → RS A κ' (effS slot e S) w' → Rep κ' (Avoid A κ') w' e.val v → (∀ (j : Nat), j ≠ slot → κ[j]? = some none → κ'[j]? = some none) → K (a.put o.dst v) w') : o.wp P a w K Q := by
  by_cases hcall : isCall ao = true
  · cases ao <;> simp only [isCall, Bool.false_eq_true] at hcall
    rename_i f args
    have hoc : ∃ fo as ts, o.op = .call ⟨.value fo, as, ts⟩ ∧ opdA fo = some f ∧ opdsA as.toList = some args := by
      cases ho : o.op <;> rw [ho] at hc <;> simp only [compileOp] at hc
      case call c =>
        obtain ⟨callee, as, ts⟩ := c
        split at hc
        · rename_i fo as' hcal has
          simp only at hcal has
          subst hcal
          cases hfo : opdA fo with
          | none => simp [hfo] at hc
          | some f' => simp [hfo] at hc; obtain ⟨rfl, rfl⟩ := hc; exact ⟨fo, as, ts, rfl, hfo, has⟩
        · rename_i b as' hcal has
          exfalso
          unfold compileBuiltin at hc
          repeat' (split at hc)
          all_goals first | cases hc | (simp only [Option.map_eq_some_iff] at hc; obtain ⟨_, _, hc⟩ := hc; cases hc)
        · cases hc
      all_goals
        first
        | cases hc
        | (exfalso
           repeat' (split at hc)
           all_goals first | cases hc | (simp only [Option.map_eq_some_iff] at hc; obtain ⟨_, _, hc⟩ := hc; cases hc))
    obtain ⟨fo, as, ts, ho, hfo, has⟩ := hoc
    obtain ⟨f', first, cap, h1, h2⟩ := semCall_sound hA hrec hS (hs rfl) h (hF.opd hfo) (hF.opds has)
    refine call_wp ho h1 ?_
    have : (as.toList.map a.eval).toArray = as.map a.eval := by apply Array.ext'; simp
    rw [this] at h2
    exact h2.mono fun v w' ⟨κ', k1, k2, k3, k4⟩ => hk v w' κ' k1 k2 k3 k4
  · have hcall : isCall ao = false := by simpa using hcall
    have h' : (sem slot (opd fr) ao).run S = some (e, rds) := by
      cases ao <;> first | exact h | simp [isCall] at hcall
    exact res_wp (op_sound hS hF hc hcall hs h') hk

end

end Go.Eng

/- Steps. -/
namespace Go.Eng
open Go

section
variable {P : Program} {A : Nat → Prop} {κ κ' : Kap} {S : Store} {w w' : World} {slot : Nat} {N : Nat} {fr : List AVal} {a : Act} {o : Oper} {ops : Array Oper} {un : List Nat} {i : AInstr}

theorem instr_spec (h : compileInstr P ops un o = some i) : i.dst = o.dst ∧ i.op = (compileOp P o.op).getD .bad ∧ i.un = un ∧
    match o.guard with
    | none => i.guard = none
    | some (j, want) => ∃ t, (ops[j]?).bind (·.dst) = some t ∧ i.guard = some (t, want) := by
  unfold compileInstr at h
  simp only at h
  split at h
  · rename_i hg; cases h; exact ⟨rfl, rfl, rfl, by rw [hg]⟩
  · rename_i j want hg
    split at h
    · rename_i t ht; cases h; exact ⟨rfl, rfl, rfl, by rw [hg]; exact ⟨t, ht, rfl⟩⟩
    · cases h

theorem wanted_spec (hF : RF A κ w N fr a) (h : compileInstr P ops un o = some i) {b : Bool} (hw : wanted fr i.guard = some b) : Region.wanted o (yielded ops a.tmps) = b := by
  obtain ⟨-, -, -, hg⟩ := instr_spec h
  unfold Region.wanted
  cases hog : o.guard with
  | none => rw [hog] at hg; simp only at hg; rw [hg] at hw; simp [wanted] at hw; simp [hw]
  | some jw =>
    obtain ⟨j, want⟩ := jw
    rw [hog] at hg
    obtain ⟨t, ht, hgi⟩ := hg
    rw [hgi] at hw
    simp only [wanted] at hw
    have htm := hF.tmp t
    have hev : a.eval (.tmp t) = a.tmps[t]?.getD undef := by simp [Act.eval]
    split at hw
    · rename_i c hc
      cases hw
      rw [hc] at htm
      have h1 : a.tmps[t]?.getD undef = .bool c := by rw [← hev]; exact htm
      have h2 : a.tmps[t]? = some (.bool c) := by
        cases h3 : a.tmps[t]? with
        | none => rw [h3] at h1; simp [undef] at h1
        | some v => rw [h3] at h1; simp at h1; rw [h1]
      simp only [yielded, ht, Option.bind_some, h2]
      simp
    · rename_i hc
      cases hw
      rw [hc] at htm
      obtain ⟨xs, h1, h2, _⟩ := htm
      have h1 : a.tmps[t]?.getD undef = .tuple xs := by rw [← hev]; exact h1
      simp only [yielded, ht, Option.bind_some]
      cases h3 : a.tmps[t]? with
      | none => simp
      | some v => rw [h3] at h1; simp at h1; subst h1; simp
    · cases hw

variable {AP : AProg} (hA : AOk P AP) {rec : Rec} (hrec : SimRec P rec)
include hA hrec

theorem dstep_wp {Q : Exit → Act → World → Prop} {K : Act → World → Prop} {idx : Nat} {st st' : St} {fp : FP} (ho : ops[idx]? = some o) (hc : compileInstr P ops un o = some i) (hS : RS A κ st.S w) (hF : RF A κ w N st.fr a)
    (hs : allocs i.op = true → κ[slot]? = some none) (h : dstep AP rec N slot i st = some (st', fp))
    (hk : ∀ a' w' κ', Ext κ w κ' w' → RS A κ' st'.S w' → RF A κ' w' N st'.fr a' → (∀ (j : Nat), j ≠ slot → κ[j]? = some none → κ'[j]? = some none) → K a' w') : wpOp P ops Q idx K a w := by
  obtain ⟨hd, hop, -, -⟩ := instr_spec hc
  unfold dstep at h
  split at h
  · rename_i hN
    rw [hd] at hN
    unfold wpOp
    simp only [ho]
    split at h
    · cases h
    · rename_i hw
      cases h
      rw [wanted_spec hF hc hw]
      simp only [Bool.false_eq_true, if_false]
      rw [hd] at *
      exact hk _ _ κ (.refl _ _) hS (hF.put hN rep_undef) (fun _ _ h => h)
    · rename_i hw
      rw [wanted_spec hF hc hw]
      simp only [if_true]
      split at h
      · cases h
      · rename_i e rds hr
        cases h
        rw [hop] at hr hs
        cases hco : compileOp P o.op with
        | none => rw [hco] at hr; simp [semX, sem] at hr; exact (run_fail hr).elim
        | some ao =>
          rw [hco] at hr hs
          refine .inl (semX_wp hA hrec hco hS hF hs hr ?_)
          intro v w' κ' k1 k2 k3 k4
          refine hk _ _ κ' k1 k2 ?_ k4
          rw [hd]
          exact (hF.mono k1).put hN k3
  · cases h

theorem step1_wp {Q : Exit → Act → World → Prop} {K : Act → World → Prop} {idx : Nat} {st st' : St} (ho : ops[idx]? = some o) (hc : compileInstr P ops un o = some i) (hS : RS A κ st.S w) (hF : RF A κ w N st.fr a)
    (h : step1 AP rec N i st = some st') (hk : ∀ a' w' κ', Ext κ w κ' w' → RS A κ' st'.S w' → RF A κ' w' N st'.fr a' → K a' w') : wpOp P ops Q idx K a w := by
  unfold step1 at h
  split at h
  · rename_i f as hsh
    split at hsh
    · rename_i hw
      obtain ⟨hd, hop, -, -⟩ := instr_spec hc
      split at h
      · rename_i hN
        rw [hd] at hN
        split at h
        · rename_i r S1 hr
          cases h
          unfold wpOp
          simp only [ho]
          rw [wanted_spec hF hc hw]
          simp only [if_true]
          -- a call that shares the store
          unfold shares at hsh
          split at hsh
          · cases hsh
          · rename_i f' as' hfv
            split at hsh
            · cases hsh
            · split at hsh
              · cases hsh
              · split at hsh
                · cases hsh
                · cases hsh
                  rw [hop] at hfv
                  cases hco : compileOp P o.op with
                  | none => rw [hco] at hfv; simp [fvOf] at hfv
                  | some ao =>
                    rw [hco] at hfv
                    simp only [Option.getD_some] at hfv
                    cases ao <;> simp only [fvOf, reduceCtorEq] at hfv
                    rename_i g gargs
                    split at hfv
                    · rename_i f0 first cap hg
                      cases hfv
                      have hoc : ∃ fo as ts, o.op = .call ⟨.value fo, as, ts⟩ ∧ opdA fo = some g ∧ opdsA as.toList = some gargs := by
                        cases hoo : o.op <;> rw [hoo] at hco <;> simp only [compileOp] at hco
                        case call c =>
                          obtain ⟨callee, as, ts⟩ := c
                          split at hco
                          · rename_i fo as' hcal has
                            simp only at hcal has
                            subst hcal
                            cases hfo : opdA fo with
                            | none => simp [hfo] at hco
                            | some f' => simp [hfo] at hco; obtain ⟨rfl, rfl⟩ := hco; exact ⟨fo, as, ts, rfl, hfo, has⟩
                          · rename_i b as' hcal has
                            exfalso
                            unfold compileBuiltin at hco
                            repeat' (split at hco)
                            all_goals first | cases hco | (simp only [Option.map_eq_some_iff] at hco; obtain ⟨_, _, hco⟩ := hco; cases hco)
                          · cases hco
                        all_goals
                          first
                          | cases hco
                          | (exfalso
                             repeat' (split at hco)
                             all_goals first | cases hco | (simp only [Option.map_eq_some_iff] at hco; obtain ⟨_, _, hco⟩ := hco; cases hco))
                      obtain ⟨fo, as2, ts, hoo, hfo, has⟩ := hoc
                      have hfr := hF.opd hfo
                      rw [hg] at hfr
                      obtain ⟨x, y, hx0, hx1, hy1, hx2, hy2⟩ := hfr
                      obtain ⟨xs, g1, g2⟩ := repL_vals _ _ hx2
                      obtain ⟨ys, g3, g4⟩ := repL_vals _ _ hy2
                      have hxs : RepV κ (Avoid A κ) w first x.toList := by
                        refine ⟨by simp [hx1], fun i b v hb hv => ?_⟩
                        obtain ⟨u, q1, q2⟩ := g1.get hb
                        have := g2 i u q1
                        simp at hv
                        rw [this] at hv; cases hv; exact q2
                      have hys : RepV κ (Avoid A κ) w cap y.toList := by
                        refine ⟨by simp [hy1], fun i b v hb hv => ?_⟩
                        obtain ⟨u, q1, q2⟩ := g3.get hb
                        have := g4 i u q1
                        simp at hv
                        rw [this] at hv; cases hv; exact q2
                      have hall := (hxs.append (hF.opds has)).append hys
                      have harr : x ++ as2.map a.eval ++ y = (x.toList ++ as2.toList.map a.eval ++ y.toList).toArray := by apply Array.ext'; simp
                      refine .inl (call_wp hoo hx0 ?_)
                      rw [harr]
                      refine (callS_sound hA hrec hr hS hall).mono ?_
                      rintro v w' ⟨κ', k1, k2, k3⟩
                      refine hk _ _ κ' k1 k2 ?_
                      rw [hd]
                      exact (hF.mono k1).put hN k3
                    · cases hfv
        · cases h
      · cases h
    · cases hsh
  · split at h
    · rename_i st1 fp hd
      cases h
      split at hd
      · rename_i hal
        obtain ⟨r1, r2⟩ := rs_reserve hS 1
        have hlen := hS.len
        refine dstep_wp (κ := κ ++ [none]) (st := ⟨st.fr, st.S ++ [none]⟩) (slot := st.S.length) hA hrec ho hc r2 (hF.mono r1) (fun _ => by rw [← hlen]; simp) hd ?_
        intro a' w' κ' k1 k2 k3 _
        exact hk a' w' κ' (r1.trans k1) k2 k3
      · rename_i hal
        refine dstep_wp hA hrec ho hc hS hF (fun h => absurd h hal) hd ?_
        intro a' w' κ' k1 k2 k3 _
        exact hk a' w' κ' k1 k2 k3
    · cases h

theorem stepL_wp {Q : Exit → Act → World → Prop} : ∀ (l : List Oper) (k : Nat) (is : List AInstr) (st st' : St) (κ : Kap) (a : Act) (w : World), (∀ (j : Nat), l[j]? = ops[k + j]?) → compileSeq P ops l = some is → RS A κ st.S w → RF A κ w N st.fr a →
    stepL AP rec N is st = some st' → (∀ a' w' κ', Ext κ w κ' w' → RS A κ' st'.S w' → RF A κ' w' N st'.fr a' → Q .normal a' w') → wpOps P ops Q (List.range' k l.length) a w
  | [], k, is, st, st', κ, a, w, hl, hc, hS, hF, h, hq => by
    simp [compileSeq] at hc; subst hc
    simp [stepL] at h; subst h
    simpa [wpOps] using hq a w κ (.refl _ _) hS hF
  | o :: l, k, is, st, st', κ, a, w, hl, hc, hS, hF, h, hq => by
    simp only [compileSeq] at hc
    split at hc
    · rename_i i is' h1 h2
      cases hc
      simp only [stepL] at h
      split at h
      · rename_i st1 hst
        rw [List.length_cons, List.range'_succ, wpOps_cons]
        refine step1_wp hA hrec (by have := hl 0; simpa using this.symm) h1 hS hF hst ?_
        intro a' w' κ' k1 k2 k3
        exact stepL_wp l (k + 1) is' st1 st' κ' a' w' (fun j => by have := hl (j + 1); simpa [Nat.add_assoc, Nat.add_comm 1 j] using this) h2 k2 k3 h
          (fun a'' w'' κ'' q1 q2 q3 => hq a'' w'' κ'' (k1.trans q1) q2 q3)
      · cases h
    · cases hc

end

end Go.Eng

/- A region that draws its order. -/
namespace Go.Eng
open Go

theorem opd_congr {fr fr' : List AVal} {x : AOpd} (h : ∀ t ∈ opdT x, get fr t = get fr' t) : opd fr x = opd fr' x := by
  cases x with
  | t n => exact h n (by simp [opdT])
  | c v => rfl
theorem opdo_congr {fr fr' : List AVal} {x : Option AOpd} (h : ∀ t ∈ opdTo x, get fr t = get fr' t) : x.map (opd fr) = x.map (opd fr') := by
  cases x with
  | none => rfl
  | some x => simp only [Option.map_some]; rw [opd_congr h]
theorem opdL_congr {fr fr' : List AVal} {xs : List AOpd} (h : ∀ t ∈ xs.flatMap opdT, get fr t = get fr' t) : xs.map (opd fr) = xs.map (opd fr') :=
  List.map_congr_left fun x hx => opd_congr fun t ht => h t (List.mem_flatMap.2 ⟨x, hx, ht⟩)
theorem opdP_congr {fr fr' : List AVal} {β : Type} {xs : List (β × AOpd)} (h : ∀ t ∈ xs.flatMap (fun p => opdT p.2), get fr t = get fr' t) : (xs.map fun p => (p.1, opd fr p.2)) = xs.map fun p => (p.1, opd fr' p.2) :=
  List.map_congr_left fun x hx => by rw [opd_congr fun t ht => h t (List.mem_flatMap.2 ⟨x, hx, ht⟩)]

theorem semX_congr {AP : AProg} {rec : Rec} {slot : Nat} {fr fr' : List AVal} {op : AOp} (h : ∀ t ∈ usesO op, get fr t = get fr' t) : semX AP rec slot (opd fr) op = semX AP rec slot (opd fr') op := by
  have one : ∀ {x : AOpd}, (∀ t ∈ opdT x, t ∈ usesO op) → opd fr x = opd fr' x := fun hx => opd_congr fun t ht => h t (hx t ht)
  have oneo : ∀ {x : Option AOpd}, (∀ t ∈ opdTo x, t ∈ usesO op) → x.map (opd fr) = x.map (opd fr') := fun hx => opdo_congr fun t ht => h t (hx t ht)
  cases op with
  | bad => rfl
  | alloc row => rfl
  | lenArr n => rfl
  | move x => simp only [semX, sem, one (x := x) (by simp [usesO])]
  | box n x => simp only [semX, sem, one (x := x) (by simp [usesO])]
  | load g n x => simp only [semX, sem, one (x := x) (by simp [usesO])]
  | nilCheck x => simp only [semX, sem, one (x := x) (by simp [usesO])]
  | isNil k n x => simp only [semX, sem, one (x := x) (by simp [usesO])]
  | un op x => simp only [semX, sem, one (x := x) (by simp [usesO])]
  | conv c x => cases c <;> simp only [semX, sem, one (x := x) (by simp [usesO])]
  | faddr n x => simp only [semX, sem, one (x := x) (by simp [usesO])]
  | field g n off x => simp only [semX, sem, one (x := x) (by simp [usesO])]
  | extract x n => simp only [semX, sem, one (x := x) (by simp [usesO])]
  | len b x => cases b <;> simp only [semX, sem, one (x := x) (by simp [usesO])]
  | clear z n x => simp only [semX, sem, one (x := x) (by simp [usesO])]
  | pick c x y => simp only [semX, sem, one (x := c) (by simp +contextual [usesO]), one (x := x) (by simp +contextual [usesO]), one (x := y) (by simp +contextual [usesO])]
  | build z ps => simp only [semX, sem]; rw [opdP_congr h]
  | buildSlice z n len ps => simp only [semX, sem]; rw [opdP_congr h]
  | store n x y => simp only [semX, sem, one (x := x) (by simp +contextual [usesO]), one (x := y) (by simp +contextual [usesO])]
  | bin op x y => simp only [semX, sem, one (x := x) (by simp +contextual [usesO]), one (x := y) (by simp +contextual [usesO])]
  | eqB n x y => simp only [semX, sem, one (x := x) (by simp +contextual [usesO]), one (x := y) (by simp +contextual [usesO])]
  | eqAgg n ls x y => simp only [semX, sem, one (x := x) (by simp +contextual [usesO]), one (x := y) (by simp +contextual [usesO])]
  | makeSlice z n b x y => simp only [semX, sem, one (x := x) (by simp +contextual [usesO]), one (x := y) (by simp +contextual [usesO])]
  | iaddr n x y => simp only [semX, sem, one (x := x) (by simp +contextual [usesO]), one (x := y) (by simp +contextual [usesO])]
  | iaddrArr m n x y => simp only [semX, sem, one (x := x) (by simp +contextual [usesO]), one (x := y) (by simp +contextual [usesO])]
  | idxStr x y => simp only [semX, sem, one (x := x) (by simp +contextual [usesO]), one (x := y) (by simp +contextual [usesO])]
  | idxArr g m n x y => simp only [semX, sem, one (x := x) (by simp +contextual [usesO]), one (x := y) (by simp +contextual [usesO])]
  | append n b x y => simp only [semX, sem, one (x := x) (by simp +contextual [usesO]), one (x := y) (by simp +contextual [usesO])]
  | copy n x y => simp only [semX, sem, one (x := x) (by simp +contextual [usesO]), one (x := y) (by simp +contextual [usesO])]
  | makeFunc f xs ys =>
    simp only [usesO, List.mem_append] at h
    simp only [semX, sem]; rw [opdL_congr fun t ht => h t (.inl ht), opdL_congr fun t ht => h t (.inr ht)]
  | sliceStr x lo hi => simp only [semX, sem, one (x := x) (by simp +contextual [usesO]), oneo (x := lo) (by simp +contextual [usesO]), oneo (x := hi) (by simp +contextual [usesO])]
  | slice n x lo hi mx => simp only [semX, sem, one (x := x) (by simp +contextual [usesO]), oneo (x := lo) (by simp +contextual [usesO]), oneo (x := hi) (by simp +contextual [usesO]), oneo (x := mx) (by simp +contextual [usesO])]
  | sliceArr m n x lo hi mx => simp only [semX, sem, one (x := x) (by simp +contextual [usesO]), oneo (x := lo) (by simp +contextual [usesO]), oneo (x := hi) (by simp +contextual [usesO]), oneo (x := mx) (by simp +contextual [usesO])]
  | call f args =>
    simp only [usesO, List.mem_append] at h
    simp only [semX]; rw [opd_congr fun t ht => h t (.inl ht), opdL_congr fun t ht => h t (.inr ht)]
  | maxI xs => simp only [semX, sem]; rw [opdL_congr h]
  | minI xs => simp only [semX, sem]; rw [opdL_congr h]

theorem run_congr {α : Type} : ∀ {m : RM α} {S S' : Store} {a : α} {ids : List Nat}, m.run S = some (a, ids) → (∀ b ∈ ids, S'[b]? = S[b]?) → m.run S' = some (a, ids)
  | .ok a, S, S', _, _, h, _ => h
  | .fail, S, S', _, _, h, _ => by simp [RM.run] at h
  | .rd b k, S, S', a, ids, h, hb => by
    obtain ⟨blk, l, h1, h2, h3⟩ := run_rd h
    simp only at h3 h2
    subst h3
    simp only [RM.run, hb b (by simp), h1, run_congr h2 fun b' hb' => hb b' (by simp [hb'])]

def effIds (slot : Nat) (e : Eff) : List Nat := e.wr.map (·.1) ++ (if e.new.isSome then [slot] else [])

theorem applyWr_len : ∀ (wr : List (Nat × Option ABlock)) (S : Store), (applyWr S wr).length = S.length
  | [], _ => rfl
  | (b, x) :: r, S => by rw [applyWr, applyWr_len r]; simp
theorem applyWr_out : ∀ (wr : List (Nat × Option ABlock)) (S : Store) (j : Nat), j ∉ wr.map (·.1) → (applyWr S wr)[j]? = S[j]?
  | [], _, _, _ => rfl
  | (b, x) :: r, S, j, h => by
    simp only [List.map_cons, List.mem_cons, not_or] at h
    rw [applyWr, applyWr_out r _ j h.2, set_get, if_neg (fun hh => h.1 hh.1.symm)]
theorem applyWr_in : ∀ (wr : List (Nat × Option ABlock)) (S S' : Store) (j : Nat), S.length = S'.length → (j ∈ wr.map (·.1) ∨ S[j]? = S'[j]?) → (applyWr S wr)[j]? = (applyWr S' wr)[j]?
  | [], S, S', j, _, h => h.resolve_left (by simp)
  | (b, x) :: r, S, S', j, hl, h => by
    simp only [applyWr]
    refine applyWr_in r _ _ j (by simp [hl]) ?_
    by_cases hj : b = j
    · refine .inr ?_
      by_cases h2 : b < S'.length
      · rw [set_get, set_get, hl, if_pos ⟨hj, h2⟩, if_pos ⟨hj, h2⟩]
      · rw [List.getElem?_eq_none (by rw [List.length_set]; omega), List.getElem?_eq_none (by rw [List.length_set]; omega)]
    · rcases h with h | h
      · simp only [List.map_cons, List.mem_cons] at h
        rcases h with h | h
        · exact absurd h.symm hj
        · exact .inl h
      · exact .inr (by rw [set_get, set_get, if_neg (fun hh => hj hh.1), if_neg (fun hh => hj hh.1)]; exact h)

theorem effS_len (slot : Nat) (e : Eff) (S : Store) : (effS slot e S).length = S.length := by
  unfold effS; split <;> simp [applyWr_len]
theorem effS_out {slot : Nat} {e : Eff} {S : Store} {j : Nat} (h : j ∉ effIds slot e) : (effS slot e S)[j]? = S[j]? := by
  unfold effIds at h
  unfold effS
  cases hn : e.new with
  | none => rw [hn] at h; simp at h; exact applyWr_out _ _ _ (by simpa using h)
  | some blk =>
    rw [hn] at h
    simp only [Option.isSome_some, if_true, List.mem_append, List.mem_singleton, not_or] at h
    rw [set_get, if_neg (fun hh => h.2 hh.1.symm)]
    exact applyWr_out _ _ _ h.1
theorem effS_in {slot : Nat} {e : Eff} {S S' : Store} {j : Nat} (hl : S.length = S'.length) (h : j ∈ effIds slot e ∨ S[j]? = S'[j]?) : (effS slot e S)[j]? = (effS slot e S')[j]? := by
  unfold effIds at h
  unfold effS
  cases hn : e.new with
  | none => rw [hn] at h; exact applyWr_in _ _ _ _ hl (h.imp (fun h => by simpa using h) id)
  | some blk =>
    rw [hn] at h
    simp only [Option.isSome_some, if_true, List.mem_append, List.mem_singleton] at h
    rw [set_get, set_get, applyWr_len, applyWr_len, hl]
    by_cases hj : slot = j
    · by_cases h2 : slot < S'.length
      · simp [hj]; rw [← hj]; simp [h2]
      · rw [if_neg (fun hh => h2 hh.2), if_neg (fun hh => h2 hh.2)]
        rw [List.getElem?_eq_none, List.getElem?_eq_none] <;> rw [applyWr_len] <;> omega
    · rw [if_neg (fun hh => hj hh.1), if_neg (fun hh => hj hh.1)]
      refine applyWr_in _ _ _ _ hl ?_
      rcases h with (h | h) | h
      · exact .inl h
      · exact absurd h.symm hj
      · exact .inr h

theorem effS_comm {s1 s2 : Nat} {e1 e2 : Eff} {S : Store} (h : ∀ j, j ∈ effIds s1 e1 → j ∉ effIds s2 e2) : effS s2 e2 (effS s1 e1 S) = effS s1 e1 (effS s2 e2 S) := by
  apply List.ext_getElem?
  intro j
  by_cases h1 : j ∈ effIds s1 e1
  · rw [effS_out (h j h1)]
    exact effS_in (by rw [effS_len]) (.inl h1)
  · rw [effS_out (S := effS s2 e2 S) h1]
    exact effS_in (by rw [effS_len]) (.inr (effS_out h1))

theorem put_comm : ∀ (fr : List AVal) (a b : Nat) (u v : AVal), a ≠ b → put (put fr a u) b v = put (put fr b v) a u
  | [], 0, 0, u, v, h => absurd rfl h
  | [], 0, b + 1, u, v, _ => rfl
  | [], a + 1, 0, u, v, _ => rfl
  | [], a + 1, b + 1, u, v, h => by simp only [put]; rw [put_comm [] a b u v (by omega)]
  | x :: xs, 0, 0, u, v, h => absurd rfl h
  | x :: xs, 0, b + 1, u, v, _ => rfl
  | x :: xs, a + 1, 0, u, v, _ => rfl
  | x :: xs, a + 1, b + 1, u, v, h => by simp only [put]; rw [put_comm xs a b u v (by omega)]

theorem apart_spec {x y : AInstr} (h : apartA x y = true) : (∀ d, x.dst = some d → d ∉ uses y) ∧ (∀ d, y.dst = some d → d ∉ uses x) ∧ (∀ d d', x.dst = some d → y.dst = some d' → d ≠ d') := by
  unfold apartA at h
  simp only [Bool.and_eq_true] at h
  obtain ⟨⟨h1, h2⟩, h3⟩ := h
  refine ⟨fun d hd => ?_, fun d hd => ?_, fun d d' hd hd' => ?_⟩
  · rw [hd] at h1; simpa [dstOff, List.contains_eq_mem] using h1
  · rw [hd] at h2; simpa [dstOff, List.contains_eq_mem] using h2
  · rw [hd, hd'] at h3; simpa using h3

theorem putO_get {fr : List AVal} {d : Option Nat} {v : AVal} {t : Nat} (h : ∀ d', d = some d' → d' ≠ t) : get (putO fr d v) t = get fr t := by
  cases d with
  | none => rfl
  | some d => simp only [putO, get_put]; rw [if_neg (fun e => h d rfl e.symm)]

theorem putO_comm {fr : List AVal} {a b : Option Nat} {u v : AVal} (h : ∀ x y, a = some x → b = some y → x ≠ y) : putO (putO fr a u) b v = putO (putO fr b v) a u := by
  cases a with
  | none => rfl
  | some a =>
    cases b with
    | none => rfl
    | some b => exact put_comm fr a b u v (h a b rfl rfl)

/-- what a step did, by itself: its value and effect hang on its own temporaries and blocks alone -/
theorem dstep_form {AP : AProg} {rec : Rec} {N slot : Nat} {i : AInstr} {st st' : St} {fp : FP} (h : dstep AP rec N slot i st = some (st', fp)) :
    ∃ e : Eff, st' = ⟨putO st.fr i.dst e.val, effS slot e st.S⟩ ∧ fp.2 = effIds slot e ∧
      ∀ fr S, (∀ t ∈ uses i, get fr t = get st.fr t) → (∀ b ∈ fp.1, S[b]? = st.S[b]?) → dstep AP rec N slot i ⟨fr, S⟩ = some (⟨putO fr i.dst e.val, effS slot e S⟩, fp) := by
  unfold dstep at h
  have hw : ∀ fr, (∀ t ∈ uses i, get fr t = get st.fr t) → wanted fr i.guard = wanted st.fr i.guard := by
    intro fr hfr
    cases hg : i.guard with
    | none => rfl
    | some tw =>
      obtain ⟨t, wt⟩ := tw
      simp only [wanted]
      rw [hfr t (by simp [uses, hg])]
  split at h
  · rename_i hN
    split at h
    · cases h
    · rename_i hwt
      cases h
      refine ⟨⟨.tuple [], none, []⟩, rfl, rfl, fun fr S hfr _ => ?_⟩
      unfold dstep
      rw [if_pos hN, hw fr hfr, hwt]
      rfl
    · rename_i hwt
      split at h
      · cases h
      · rename_i e rds hr
        cases h
        refine ⟨e, rfl, rfl, fun fr S hfr hb => ?_⟩
        unfold dstep
        rw [if_pos hN, hw fr hfr, hwt]
        simp only
        rw [semX_congr (fr' := st.fr) fun t ht => hfr t (by simp [uses, ht]), run_congr hr hb]
  · cases h

theorem disj_spec {a b : List Nat} (h : disj a b = true) : ∀ x, x ∈ a → x ∉ b := by
  intro x hx
  unfold disj at h
  have := List.all_eq_true.1 h x hx
  simpa [List.contains_eq_mem] using this

theorem swap_step {AP : AProg} {rec : Rec} {N s1 s2 : Nat} {x y : AInstr} {st st1 st2 : St} {f1 f2 : FP} (h1 : dstep AP rec N s1 x st = some (st1, f1)) (h2 : dstep AP rec N s2 y st1 = some (st2, f2))
    (hap : apartA x y = true) (hin : indep f1 f2 = true) : ∃ st3, dstep AP rec N s2 y st = some (st3, f2) ∧ dstep AP rec N s1 x st3 = some (st2, f1) := by
  obtain ⟨e1, rfl, g1, k1⟩ := dstep_form h1
  obtain ⟨e2, rfl, g2, k2⟩ := dstep_form h2
  obtain ⟨a1, a2, a3⟩ := apart_spec hap
  unfold indep at hin
  simp only [Bool.and_eq_true] at hin
  obtain ⟨⟨i1, i2⟩, i3⟩ := hin
  have d1 := disj_spec i1
  have d2 := disj_spec i2
  have d3 := disj_spec i3
  rw [g1] at d1 d2
  rw [g2] at d2 d3
  refine ⟨⟨putO st.fr y.dst e2.val, effS s2 e2 st.S⟩, ?_, ?_⟩
  · refine k2 st.fr st.S (fun t ht => ?_) (fun b hb => ?_)
    · exact (putO_get fun d hd he => a1 d hd (he ▸ ht)).symm
    · exact (effS_out fun hm => d1 b hm hb).symm
  · have := k1 (putO st.fr y.dst e2.val) (effS s2 e2 st.S) (fun t ht => putO_get fun d hd he => a2 d hd (he ▸ ht)) (fun b hb => effS_out (d3 b hb))
    rw [this]
    rw [putO_comm (fun p q hp hq => (a3 p q hp hq)), effS_comm d2]

theorem drawL_cons {AP : AProg} {rec : Rec} {N : Nat} {x : AInstr × Nat} {r : List (AInstr × Nat)} {st st' : St} {fps : List FP} (h : drawL AP rec N (x :: r) st = some (st', fps)) :
    ∃ st1 fp q, dstep AP rec N x.2 x.1 st = some (st1, fp) ∧ drawL AP rec N r st1 = some (st', q) ∧ fps = fp :: q := by
  obtain ⟨i, s⟩ := x
  simp only [drawL] at h
  split at h
  · rename_i st1 fp h1
    split at h
    · rename_i st2 q h2; cases h; exact ⟨st1, fp, q, h1, h2, rfl⟩
    · cases h
  · cases h

theorem drawL_mk {AP : AProg} {rec : Rec} {N : Nat} {x : AInstr × Nat} {r : List (AInstr × Nat)} {st st1 st' : St} {fp : FP} {q : List FP} (h1 : dstep AP rec N x.2 x.1 st = some (st1, fp)) (h2 : drawL AP rec N r st1 = some (st', q)) :
    drawL AP rec N (x :: r) st = some (st', fp :: q) := by
  obtain ⟨i, s⟩ := x
  simp only [drawL, h1, h2]

/-- one that nobody ahead of it is waited for is done first -/
theorem drawL_first {AP : AProg} {rec : Rec} {N : Nat} {x : AInstr × Nat} {fx : FP} : ∀ (r1 : List (AInstr × Nat)) (f1 : List FP) (r2 : List (AInstr × Nat)) (f2 : List FP) (st st' : St), r1.length = f1.length →
    drawL AP rec N (r1 ++ x :: r2) st = some (st', f1 ++ fx :: f2) → (∀ (k : Nat) y fy, r1[k]? = some y → f1[k]? = some fy → apartA y.1 x.1 = true ∧ indep fy fx = true) →
    drawL AP rec N (x :: (r1 ++ r2)) st = some (st', fx :: (f1 ++ f2))
  | [], [], r2, f2, st, st', _, h, _ => h
  | [], _ :: _, _, _, _, _, hl, _, _ => by simp at hl
  | _ :: _, [], _, _, _, _, hl, _, _ => by simp at hl
  | y :: r1, fy :: f1, r2, f2, st, st', hl, h, hap => by
    obtain ⟨st1, fp, q, g1, g2, g3⟩ := drawL_cons (x := y) h
    simp only [List.cons_append, List.cons.injEq] at g3
    obtain ⟨rfl, rfl⟩ := g3
    have ih := drawL_first r1 f1 r2 f2 st1 st' (by simpa using hl) g2 (fun k z fz hz hfz => hap (k + 1) z fz (by simpa using hz) (by simpa using hfz))
    obtain ⟨st2, fp2, q2, k1, k2, k3⟩ := drawL_cons ih
    simp only [List.cons.injEq] at k3
    obtain ⟨rfl, rfl⟩ := k3
    obtain ⟨a1, a2⟩ := hap 0 y fy rfl rfl
    obtain ⟨st3, m1, m2⟩ := swap_step g1 k1 a1 a2
    exact drawL_mk m1 (drawL_mk m2 k2)

def item0 : AInstr × Nat := (⟨none, .bad, none, []⟩, 0)

theorem slots_len (d : Nat) : ∀ (n : Nat) (l : List AInstr), (slots d n l).length = l.length
  | _, [] => rfl
  | n, i :: r => by
    unfold slots
    split <;> simp [slots_len d _ r]

theorem slots_at {d : Nat} : ∀ (n : Nat) (l : List AInstr) (j : Nat) (i : AInstr) (s : Nat), l[j]? = some i → (slots d n l)[j]? = some s →
    (allocs i.op = true → n ≤ s ∧ s < n + nslots l) ∧ (allocs i.op = false → s = d)
  | _, [], _, _, _, h, _ => by simp at h
  | n, x :: r, 0, i, s, h, hs => by
    simp at h; subst h
    unfold slots at hs
    split at hs
    · rename_i ha
      simp at hs; subst hs
      exact ⟨fun _ => ⟨Nat.le_refl _, by unfold nslots; simp [ha]⟩, fun h => by rw [ha] at h; cases h⟩
    · rename_i ha
      simp at hs; subst hs
      exact ⟨fun h => absurd h ha, fun _ => rfl⟩
  | n, x :: r, j + 1, i, s, h, hs => by
    simp at h
    unfold slots at hs
    split at hs
    · rename_i ha
      simp at hs
      obtain ⟨h1, h2⟩ := slots_at (n + 1) r j i s h hs
      refine ⟨fun h => ?_, h2⟩
      obtain ⟨h3, h4⟩ := h1 h
      have : nslots (x :: r) = nslots r + 1 := by unfold nslots; simp [ha]
      omega
    · rename_i ha
      simp at hs
      obtain ⟨h1, h2⟩ := slots_at n r j i s h hs
      refine ⟨fun h => ?_, h2⟩
      obtain ⟨h3, h4⟩ := h1 h
      have : nslots (x :: r) = nslots r := by unfold nslots; simp [ha]
      omega

theorem slots_inj {d : Nat} : ∀ (n : Nat) (l : List AInstr) (j k : Nat) (x y : AInstr) (s : Nat), l[j]? = some x → l[k]? = some y → allocs x.op = true → allocs y.op = true → (slots d n l)[j]? = some s → (slots d n l)[k]? = some s → j = k
  | _, [], _, _, _, _, _, h, _, _, _, _, _ => by simp at h
  | n, z :: r, 0, 0, _, _, _, _, _, _, _, _, _ => rfl
  | n, z :: r, 0, k + 1, x, y, s, h, h', ha, ha', hs, hs' => by
    simp at h h'; subst h
    unfold slots at hs hs'
    rw [if_pos ha] at hs hs'
    simp at hs hs'; subst hs
    have := (slots_at _ r k y _ h' hs').1 ha'
    omega
  | n, z :: r, j + 1, 0, x, y, s, h, h', ha, ha', hs, hs' => by
    simp at h h'; subst h'
    unfold slots at hs hs'
    rw [if_pos ha'] at hs hs'
    simp at hs hs'; subst hs'
    have := (slots_at _ r j x _ h hs).1 ha
    omega
  | n, z :: r, j + 1, k + 1, x, y, s, h, h', ha, ha', hs, hs' => by
    simp at h h'
    unfold slots at hs hs'
    split at hs
    · rename_i hz
      rw [if_pos hz] at hs'
      simp at hs hs'
      rw [slots_inj (n + 1) r j k x y s h h' ha ha' hs hs']
    · rename_i hz
      rw [if_neg hz] at hs'
      simp at hs hs'
      rw [slots_inj n r j k x y s h h' ha ha' hs hs']

theorem drawOk_spec {fps : List FP} : ∀ (is : List AInstr) (q : List FP) (n : Nat) (i : AInstr) (fp : FP), drawOk fps is q = true → is[n]? = some i → q[n]? = some fp → ∀ j ∈ i.un, ∃ x, fps[j]? = some x ∧ indep x fp = true
  | [], _, _, _, _, _, h, _, _, _ => by simp at h
  | _ :: _, [], _, _, _, _, _, h, _, _ => by simp at h
  | x :: is, f :: q, 0, i, fp, h, hi, hf, j, hj => by
    simp at hi hf; subst hi hf
    simp only [drawOk, Bool.and_eq_true] at h
    have := List.all_eq_true.1 h.1 j hj
    cases hx : fps[j]? with
    | none => rw [hx] at this; cases this
    | some y => rw [hx] at this; exact ⟨y, rfl, this⟩
  | x :: is, f :: q, n + 1, i, fp, h, hi, hf, j, hj => by
    simp only [drawOk, Bool.and_eq_true] at h
    simp at hi hf
    exact drawOk_spec is q n i fp h.2 hi hf j hj

theorem drawAll_spec {bf : List Nat} {is : List AInstr} : ∀ (l : List Oper) (k j : Nat) (o : Oper), drawAll bf is k l = true → l[j]? = some o → drawAt bf is (k + j) o = true
  | [], _, _, _, _, h => by simp at h
  | x :: r, k, 0, o, h, ho => by
    simp only [drawAll, Bool.and_eq_true] at h
    simp at ho; subst ho; exact h.1
  | x :: r, k, j + 1, o, h, ho => by
    simp only [drawAll, Bool.and_eq_true] at h
    simp at ho
    have := drawAll_spec r (k + 1) j o h.2 ho
    rwa [Nat.add_assoc, Nat.add_comm 1 j] at this

theorem compileUn_spec {P : Program} {ops : Array Oper} {bf : List Nat} : ∀ (l : List Oper) (k : Nat) (is : List AInstr), compileUn P ops bf k l = some is → is.length = l.length ∧ ∀ (j : Nat) o, l[j]? = some o → ∃ i, is[j]? = some i ∧ compileInstr P ops (unOf bf (k + j)) o = some i
  | [], _, is, h => by simp [compileUn] at h; subst h; simp
  | o :: r, k, is, h => by
    simp only [compileUn] at h
    split at h
    · rename_i i is' h1 h2
      cases h
      obtain ⟨g1, g2⟩ := compileUn_spec r (k + 1) is' h2
      refine ⟨by simp [g1], fun j o' ho => ?_⟩
      cases j with
      | zero => simp at ho; subst ho; exact ⟨i, rfl, h1⟩
      | succ j =>
        simp at ho
        obtain ⟨i', q1, q2⟩ := g2 j o' ho
        exact ⟨i', by simpa using q1, by rwa [Nat.add_assoc, Nat.add_comm 1 j] at q2⟩
    · cases h

theorem drawL_len {AP : AProg} {rec : Rec} {N : Nat} : ∀ (l : List (AInstr × Nat)) (st st' : St) (fps : List FP), drawL AP rec N l st = some (st', fps) → fps.length = l.length
  | [], st, st', fps, h => by simp [drawL] at h; rw [h.2]; rfl
  | x :: r, st, st', fps, h => by
    obtain ⟨st1, fp, q, g1, g2, rfl⟩ := drawL_cons h
    simp [drawL_len r st1 st' q g2]

theorem map_getD_range {α : Type} (l : List α) (d : α) : (List.range l.length).map (fun j => l.getD j d) = l := by
  apply List.ext_getElem?
  intro j
  by_cases h : j < l.length
  · simp [h]
  · simp [h]

section
variable {P : Program} {A : Nat → Prop} {N : Nat} {ops : Array Oper} {AP : AProg} {rec : Rec} {is : List AInstr} {bf : List Nat} {sl : List Nat} {fps : List FP} {d : Nat}

/-- what is known of the table -/
structure DrawT (P : Program) (ops : Array Oper) (is : List AInstr) (bf sl : List Nat) (fps : List FP) (d : Nat) : Prop where
  len : is.length = ops.size
  slen : sl.length = ops.size
  flen : fps.length = ops.size
  ins : ∀ (j : Nat) o, ops[j]? = some o → ∃ i, is[j]? = some i ∧ compileInstr P ops (unOf bf j) o = some i
  dr : ∀ (j : Nat) o, ops[j]? = some o → drawAt bf is j o = true
  ok : drawOk fps is fps = true
  sd : ∀ (j : Nat) i s, is[j]? = some i → sl[j]? = some s → (allocs i.op = true → s < d) ∧ (allocs i.op = false → s = d)
  si : ∀ (j k : Nat) x y s, is[j]? = some x → is[k]? = some y → allocs x.op = true → allocs y.op = true → sl[j]? = some s → sl[k]? = some s → j = k

theorem DrawT.later {i : Nat} (T : DrawT P ops is bf sl fps d) {oi : Oper} (hoi : ops[i]? = some oi) {k : Nat} (hk : k < i) (hb : (bf.getD i 0).testBit k = false) :
    apartA ((is.zip sl).getD k item0).1 ((is.zip sl).getD i item0).1 = true ∧ indep (fps.getD k ([], [])) (fps.getD i ([], [])) = true := by
  have hi : i < ops.size := (Array.getElem?_eq_some_iff.1 hoi).1
  have hd := T.dr i oi hoi
  unfold drawAt at hd
  simp only [Bool.and_eq_true] at hd
  have h1 := List.all_eq_true.1 hd.2 k (List.mem_range.2 hk)
  rw [hb] at h1
  simp only [Bool.false_eq_true, if_false] at h1
  obtain ⟨ii, g1, g2⟩ := T.ins i oi hoi
  have hun := (instr_spec g2).2.2.1
  have hfi : fps[i]? = some (fps.getD i ([], [])) := by
    rw [List.getD_eq_getElem?_getD, List.getElem?_eq_getElem (by rw [T.flen]; exact hi)]; rfl
  obtain ⟨x, hx, hin⟩ := drawOk_spec is fps i ii _ T.ok g1 hfi k (by rw [hun]; exact List.mem_filter.2 ⟨List.mem_range.2 hk, by rw [hb]; rfl⟩)
  constructor
  · have hki : k < is.length := by rw [T.len]; omega
    have hii : i < is.length := by rw [T.len]; omega
    have hks : k < sl.length := by rw [T.slen]; omega
    have his : i < sl.length := by rw [T.slen]; omega
    rw [List.getElem?_eq_getElem hki, List.getElem?_eq_getElem hii] at h1
    simp only at h1
    simp only [List.getD_eq_getElem?_getD, List.getElem?_zip_eq_some, List.getElem?_eq_getElem (l := is.zip sl) (i := k) (by simp; omega), List.getElem?_eq_getElem (l := is.zip sl) (i := i) (by simp; omega), Option.getD_some, List.getElem_zip]
    exact h1
  · rw [List.getD_eq_getElem?_getD (l := fps) (i := k), hx]
    exact hin

def ClosedL (bf : List Nat) (listed : Array Bool) : Prop := ∀ (j : Nat), listed.getD j false = true → ∀ (k : Nat), k < j → (bf.getD j 0).testBit k = true → listed.getD k false = true

theorem DrawT.clear {i : Nat} (T : DrawT P ops is bf sl fps d) {oi : Oper} (hoi : ops[i]? = some oi) {listed : Array Bool} (hcl : ClosedL bf listed) (hr : (oi.after.all fun e => !Region.binds .any e || listed.getD e.on false) = true) {k : Nat} (hk : k < i)
    (hb : (bf.getD i 0).testBit k = true) : listed.getD k false = true := by
  have hd := T.dr i oi hoi
  unfold drawAt at hd
  simp only [Bool.and_eq_true] at hd
  have h1 := List.all_eq_true.1 hd.2 k (List.mem_range.2 hk)
  rw [hb] at h1
  simp only [if_true] at h1
  rw [Array.any_eq_true] at h1
  obtain ⟨n, hn, h2⟩ := h1
  rw [Array.all_eq_true] at hr
  have h3 := hr n hn
  simp only [Bool.and_eq_true, Bool.or_eq_true, decide_eq_true_eq, beq_iff_eq] at h2
  rw [h2.1] at h3
  simp only [Bool.not_true, Bool.false_or] at h3
  rcases h2.2 with h4 | ⟨h4, h5⟩
  · rw [← h4]; exact h3
  · exact hcl _ h3 k h4 h5

theorem getD_ft {l : Array Bool} {j : Nat} (hj : j < l.size) : l.getD j true = l.getD j false := by
  simp [Array.getD, hj]

theorem getD_set {l : Array Bool} {i j : Nat} {d : Bool} (hi : i < l.size) : (l.setIfInBounds i true).getD j d = if i = j then true else l.getD j d := by
  by_cases h : i = j
  · subst h; simp [Array.getD, hi]
  · by_cases hj : j < l.size
    · simp [Array.getD, hj, h]
    · simp [Array.getD, hj, h]

variable (hA : AOk P AP) (hrec : SimRec P rec)
include hA hrec

theorem draw_ind {Q : Exit → Act → World → Prop} {st' : St} (T : DrawT P ops is bf sl fps d) : ∀ (n : Nat) (R : List Nat) (listed : Array Bool) (st : St) (κ : Kap) (a : Act) (w : World), R.length = n → R.Pairwise (· < ·) → listed.size = ops.size → (∀ j, j ∈ R ↔ listed.getD j true = false) → ClosedL bf listed →
    (∀ j ∈ R, ∀ i s, is[j]? = some i → sl[j]? = some s → allocs i.op = true → κ[s]? = some none) → RS A κ st.S w → RF A κ w N st.fr a →
    drawL AP rec N (R.map fun j => (is.zip sl).getD j item0) st = some (st', R.map fun j => fps.getD j ([], [])) →
    (∀ a' w' κ', Ext κ w κ' w' → RS A κ' st'.S w' → RF A κ' w' N st'.fr a' → Q .normal a' w') → wpAny P .any ops Q n listed a w
  | 0, R, listed, st, κ, a, w, hn, hp, hsz, hR, hcl, hsl, hS, hF, h, hq => by
    have hnil : R = [] := List.length_eq_zero_iff.1 hn
    subst hnil
    simp [drawL] at h
    subst h
    refine ⟨?_, hq a w κ (.refl _ _) hS hF⟩
    unfold Region.ready
    rw [List.filter_eq_nil_iff]
    intro i _ hi
    simp only [Bool.and_eq_true, Bool.not_eq_true'] at hi
    exact absurd ((hR i).2 hi.1) (by simp)
  | n + 1, R, listed, st, κ, a, w, hn, hp, hsz, hR, hcl, hsl, hS, hF, h, hq => by
    have hlt : ∀ j ∈ R, j < ops.size := fun j hj => by
      have := (hR j).1 hj
      rcases Nat.lt_or_ge j ops.size with h | h
      · exact h
      · simp [Array.getD, hsz, Nat.not_lt.2 h] at this
    refine ⟨fun h0 => ?_, fun i hi => ?_⟩
    · exfalso
      cases R with
      | nil => simp at hn
      | cons r R' =>
        have hr : r < ops.size := hlt r (by simp)
        have hmem : r ∈ Region.ready .any ops listed := by
          unfold Region.ready
          rw [List.mem_filter]
          refine ⟨List.mem_range.2 hr, ?_⟩
          rw [(hR r).1 (by simp), Array.getElem?_eq_getElem hr]
          simp only [Bool.not_false, Bool.true_and, Option.map_some, Option.getD_some]
          have hd := T.dr r _ (Array.getElem?_eq_getElem hr)
          unfold drawAt at hd
          simp only [Bool.and_eq_true] at hd
          have hd1 := hd.1
          rw [Array.all_eq_true] at hd1 ⊢
          intro m hm
          have h1 := hd1 m hm
          simp only [Bool.or_eq_true, decide_eq_true_eq] at h1 ⊢
          refine h1.imp id fun h1 => ?_
          generalize (ops[r].after[m]).on = on at h1
          cases hl : listed.getD on false with
          | true => rfl
          | false =>
            have h2 : on ∈ r :: R' := (hR on).2 (by rw [getD_ft (by rw [hsz]; omega)]; exact hl)
            rcases List.mem_cons.1 h2 with h3 | h3
            · omega
            · have := List.rel_of_pairwise_cons hp h3
              omega
        rw [h0] at hmem
        simp at hmem
    · unfold Region.ready at hi
      rw [List.mem_filter, List.mem_range] at hi
      obtain ⟨hisz, hi⟩ := hi
      rw [Array.getElem?_eq_getElem hisz] at hi
      simp only [Bool.and_eq_true, Bool.not_eq_true', Option.map_some, Option.getD_some] at hi
      obtain ⟨hil, hir⟩ := hi
      have hiR : i ∈ R := (hR i).2 hil
      have hoi := Array.getElem?_eq_getElem hisz
      obtain ⟨R1, R2, rfl⟩ := List.append_of_mem hiR
      obtain ⟨ii, g1, g2⟩ := T.ins i _ hoi
      have hsi : i < sl.length := by rw [T.slen]; exact hisz
      have hitem : (is.zip sl).getD i item0 = (ii, sl[i]) := by
        have hii : i < is.length := by rw [T.len]; exact hisz
        rw [List.getElem?_eq_getElem hii] at g1
        cases g1
        rw [List.getD_eq_getElem?_getD, List.getElem?_eq_getElem (by simp; omega)]
        simp
      rw [List.map_append, List.map_cons, List.map_append, List.map_cons] at h
      have hp1 : ∀ k ∈ R1, k < i := fun k hk => (List.pairwise_append.1 hp).2.2 k hk i (by simp)
      have hfirst := drawL_first _ _ _ _ st st' (by simp) h (fun k y fy hy hfy => by
        rw [List.getElem?_map] at hy hfy
        cases hk : R1[k]? with
        | none => rw [hk] at hy; cases hy
        | some kk =>
          rw [hk] at hy hfy
          cases hy; cases hfy
          have hkR : kk ∈ R1 := List.mem_of_getElem? hk
          refine T.later hoi (hp1 kk hkR) ?_
          cases hb : (bf.getD i 0).testBit kk with
          | false => rfl
          | true =>
            have h1 := T.clear hoi hcl hir (hp1 kk hkR) hb
            have h2 := (hR kk).1 (by simp [hkR])
            rw [getD_ft (by rw [hsz]; exact hlt kk (by simp [hkR])), h1] at h2
            cases h2)
      obtain ⟨st1, fp1, q, k1, k2, k3⟩ := drawL_cons hfirst
      rw [hitem] at k1
      simp only at k1
      have hslots := T.sd i ii sl[i] g1 (List.getElem?_eq_getElem hsi)
      refine dstep_wp hA hrec hoi g2 hS hF (fun ha => hsl i hiR ii sl[i] g1 (List.getElem?_eq_getElem hsi) ha) k1 ?_
      intro a' w' κ' e1 e2 e3 e4
      simp only [List.cons.injEq] at k3
      obtain ⟨rfl, rfl⟩ := k3
      have hnd : (R1 ++ i :: R2).Nodup := hp.imp (fun h => Nat.ne_of_lt h)
      have hni : i ∉ R1 ++ R2 := by
        have := (List.perm_middle (l₁ := R1) (l₂ := R2) (a := i)).nodup_iff.1 hnd
        exact (List.nodup_cons.1 this).1
      refine draw_ind T n (R1 ++ R2) (listed.setIfInBounds i true) st1 κ' a' w' (by simp at hn ⊢; omega) ?_ (by simp [hsz]) ?_ ?_ ?_ e2 e3 (by rw [List.map_append, List.map_append]; exact k2)
        (fun a'' w'' κ'' q1 q2 q3 => hq a'' w'' κ'' (e1.trans q1) q2 q3)
      · exact hp.sublist (by simp)
      · intro j
        rw [getD_set (by rw [hsz]; exact hisz)]
        by_cases hj : i = j
        · subst hj; simp; simpa using hni
        · rw [if_neg hj, ← hR j]
          simp [Ne.symm hj]
      · intro j hj k hk hb
        rw [getD_set (by rw [hsz]; exact hisz)] at hj ⊢
        by_cases hik : i = k
        · rw [if_pos hik]
        · rw [if_neg hik]
          by_cases hij : i = j
          · subst hij; exact T.clear hoi hcl hir hk hb
          · rw [if_neg hij] at hj
            exact hcl j hj k hk hb
      · intro j hj x s hx hs ha
        have hjR : j ∈ R1 ++ i :: R2 := by
          rcases List.mem_append.1 hj with h | h
          · exact List.mem_append.2 (.inl h)
          · exact List.mem_append.2 (.inr (List.mem_cons_of_mem _ h))
        refine e4 s (fun he => ?_) (hsl j hjR x s hx hs ha)
        subst he
        cases hai : allocs ii.op with
        | true =>
          have := T.si j i x ii _ hx g1 ha hai hs (List.getElem?_eq_getElem hsi)
          subst this
          exact hni hj
        | false =>
          have h1 := hslots.2 hai
          have h2 := (T.sd j x _ hx hs).1 ha
          omega

theorem draw_wp {κ : Kap} {w : World} {a : Act} {id : Nat} {st st' : St} {fps : List FP} {Q : Exit → Act → World → Prop} (hc : compileDraw P ops = some is) (hS : RS A κ st.S w) (hF : RF A κ w N st.fr a)
    (h : drawL AP rec N (is.zip (slots (st.S.length + nslots is) st.S.length is)) ⟨st.fr, st.S ++ List.replicate (nslots is) none⟩ = some (st', fps)) (hok : drawOk fps is fps = true)
    (hq : ∀ a' w' κ', Ext κ w κ' w' → RS A κ' st'.S w' → RF A κ' w' N st'.fr a' → Q .normal a' w') : (Code.region id ops true).wp P Q a w := by
  unfold compileDraw at hc
  split at hc
  · rename_i is' hun
    split at hc
    · rename_i hdr
      cases hc
      simp only [Bool.and_eq_true] at hdr
      obtain ⟨hm, hdr⟩ := hdr
      obtain ⟨c1, c2⟩ := compileUn_spec _ _ _ hun
      have hlen : is.length = ops.size := by simpa using c1
      have hfl := drawL_len _ _ _ _ h
      simp only [List.length_zip, slots_len, Nat.min_self] at hfl
      refine wp_region_any hm ?_
      have x0 : Ext κ w κ { w with drawn := w.drawn + 1 } := Ext.of_heap rfl ⟨rfl, rfl, rfl⟩
      obtain ⟨r1, r2⟩ := rs_reserve (hS.of_heap rfl ⟨rfl, rfl, rfl⟩ : RS A κ st.S { w with drawn := w.drawn + 1 }) (nslots is)
      have hz : (List.range ops.size).map (fun j => (is.zip (slots (st.S.length + nslots is) st.S.length is)).getD j item0) = is.zip (slots (st.S.length + nslots is) st.S.length is) := by
        have := map_getD_range (is.zip (slots (st.S.length + nslots is) st.S.length is)) item0
        rwa [List.length_zip, slots_len, Nat.min_self, hlen] at this
      have hf : (List.range ops.size).map (fun j => fps.getD j (([], []) : FP)) = fps := by
        have := map_getD_range fps (([], []) : FP)
        rwa [hfl, hlen] at this
      refine draw_ind (κ := κ ++ List.replicate (nslots is) none) (st := ⟨st.fr, st.S ++ List.replicate (nslots is) none⟩) (is := is) (bf := (Region.before ops).toList) (sl := slots (st.S.length + nslots is) st.S.length is) (fps := fps) (d := st.S.length + nslots is) hA hrec
        ⟨hlen, by rw [slots_len, hlen], by rw [hfl, hlen], fun j o ho => ?_, fun j o ho => ?_, hok, fun j i s hi hs => ?_, fun j k x y s hx hy ha hb hs hs' => slots_inj _ _ j k x y s hx hy ha hb hs hs'⟩
        ops.size (List.range ops.size) _ a _ (by simp) List.pairwise_lt_range (by simp) ?_ ?_ ?_ r2 ((hF.mono x0).mono r1) (by rw [hz, hf]; exact h) ?_
      · obtain ⟨i, q1, q2⟩ := c2 j o (by simpa using ho)
        exact ⟨i, q1, by simpa using q2⟩
      · have := drawAll_spec _ _ j o hdr (by simpa using ho)
        simpa using this
      · obtain ⟨q1, q2⟩ := slots_at _ _ j i s hi hs
        exact ⟨fun ha => (q1 ha).2, q2⟩
      · intro j
        by_cases hj : j < ops.size
        · simp [Array.getD, hj]
        · simp [Array.getD, hj]
      · intro j hj
        by_cases hjs : j < ops.size
        · simp [Array.getD, hjs] at hj
        · simp [Array.getD, hjs] at hj
      · intro j hj i s hi hs ha
        obtain ⟨q1, q2⟩ := slots_at _ _ j i s hi hs
        have := q1 ha
        have hl := hS.len
        rw [List.getElem?_append_right (by omega), List.getElem?_replicate, if_pos (by omega)]
      · intro a' w' κ' e1 e2 e3
        exact hq a' w' κ' ((x0.trans r1).trans e1) e2 e3
    · cases hc
  · cases hc

end

end Go.Eng

/- All code. -/
namespace Go.Eng
open Go

section
variable {P : Program} {AP : AProg} (hA : AOk P AP)

theorem rounds_mono {c : Code} {Q Q' : Exit → Act → World → Prop} (hq : ∀ e a w, Q e a w → Q' e a w) : ∀ (n : Nat) (a : Act) (w : World), Code.rounds P c Q n a w → Code.rounds P c Q' n a w
  | 0, _, _, h => h
  | n + 1, a, w, h => wp_mono h fun e a w he => by
    cases e with
    | normal => exact rounds_mono hq n a w he
    | exit id => exact hq _ _ _ he
    | goto l => exact hq _ _ _ he
    | ret => exact hq _ _ _ he
    | panic c => exact hq _ _ _ he
    | outgrown => exact hq _ _ _ he

/-- and of a loop: in so many rounds -/
def SimLoop (P : Program) (rec : Rec) : Prop :=
  ∀ N c ac st ex st', compileCode P c = some ac → rec N (.loop ac) st = some (ex, st') → ∃ m, ∀ A κ a w, RS A κ st.S w → RF A κ w N st.fr a → Code.rounds P c (Post A κ w N ex st') m a w

theorem post_trans {A : Nat → Prop} {κ κ1 : Kap} {w w1 : World} {N : Nat} {ex : AExit} {st : St} (h : Ext κ w κ1 w1) {e : Exit} {a : Act} {w' : World} (hp : Post A κ1 w1 N ex st e a w') : Post A κ w N ex st e a w' := by
  obtain ⟨h1, κ', h2, h3, h4⟩ := hp
  exact ⟨h1, κ', h.trans h2, h3, h4⟩

include hA
theorem sim_step {rec : Rec} (hrec : SimRec P rec) (hloop : SimLoop P rec) : SimLoop P (F AP rec) := by
  intro N c ac st ex st' hc h
  simp only [F] at h
  cases hr : rec N ac st with
  | none => rw [hr] at h; cases h
  | some r =>
    obtain ⟨ex1, st1⟩ := r
    rw [hr] at h
    cases ex1 with
    | normal =>
      simp only at h
      obtain ⟨m, hm⟩ := hloop N c ac st1 ex st' hc h
      refine ⟨m + 1, fun A κ a w hS hF => ?_⟩
      rw [rounds_succ]
      refine wp_mono (hrec N c ac st _ st1 hc hr A κ a w hS hF) ?_
      rintro e a' w' ⟨rfl, κ', k1, k2, k3⟩
      exact rounds_mono (fun e a w hp => post_trans k1 hp) m a' w' (hm A κ' a' w' k2 k3)
    | exit id =>
      cases h
      refine ⟨1, fun A κ a w hS hF => ?_⟩
      rw [rounds_succ]
      refine wp_mono (hrec N c ac st _ _ hc hr A κ a w hS hF) ?_
      rintro e a' w' ⟨rfl, hp⟩
      exact ⟨rfl, hp⟩
    | ret =>
      cases h
      refine ⟨1, fun A κ a w hS hF => ?_⟩
      rw [rounds_succ]
      refine wp_mono (hrec N c ac st _ _ hc hr A κ a w hS hF) ?_
      rintro e a' w' ⟨rfl, hp⟩
      exact ⟨rfl, hp⟩

theorem sim_code {rec : Rec} (hrec : SimRec P rec) (hloop : SimLoop P rec) : SimRec P (F AP rec) := by
  intro N c
  induction c with
  | skip =>
    intro ac st ex st' hc h A κ a w hS hF
    simp [compileCode] at hc; subst hc
    simp [F] at h; obtain ⟨rfl, rfl⟩ := h
    exact wp_skip ⟨rfl, κ, .refl _ _, hS, hF⟩
  | label l =>
    intro ac st ex st' hc h A κ a w hS hF
    simp [compileCode] at hc; subst hc
    simp [F] at h; obtain ⟨rfl, rfl⟩ := h
    exact wp_label ⟨rfl, κ, .refl _ _, hS, hF⟩
  | region id ops draw =>
    intro ac st ex st' hc h A κ a w hS hF
    cases draw with
    | false =>
      simp only [compileCode] at hc
      cases his : compileSeq P ops ops.toList with
      | none => simp [his] at hc
      | some is =>
        simp [his] at hc; subst hc
        simp only [F] at h
        split at h
        · rename_i st1 hst
          cases h
          refine wp_region ?_
          rw [List.range_eq_range']
          have := stepL_wp (N := N) (Q := Post A κ w N .normal _) hA hrec ops.toList 0 is st _ κ a w (by simp) his hS hF hst (fun a' w' κ' q1 q2 q3 => ⟨rfl, κ', q1, q2, q3⟩)
          simpa using this
        · cases h
    | true =>
      simp only [compileCode] at hc
      cases his : compileDraw P ops with
      | none => simp [his] at hc
      | some is =>
        simp [his] at hc; subst hc
        simp only [F] at h
        split at h
        · rename_i st1 fps hst
          split at h
          · rename_i hok
            cases h
            exact draw_wp hA hrec his hS hF hst hok (fun a' w' κ' q1 q2 q3 => ⟨rfl, κ', q1, q2, q3⟩)
          · cases h
        · cases h
  | seq x y ihx ihy =>
    intro ac st ex st' hc h A κ a w hS hF
    simp only [compileCode] at hc
    split at hc
    · rename_i ax ay h1 h2
      cases hc
      simp only [F] at h
      cases hr : rec N ax st with
      | none => rw [hr] at h; cases h
      | some r =>
        obtain ⟨ex1, st1⟩ := r
        rw [hr] at h
        cases ex1 with
        | normal =>
          simp only at h
          refine wp_seq (wp_mono (hrec N x ax st _ st1 h1 hr A κ a w hS hF) ?_)
          rintro e a' w' ⟨rfl, κ', k1, k2, k3⟩
          exact wp_mono (hrec N y ay st1 _ st' h2 h A κ' a' w' k2 k3) fun e a w hp => post_trans k1 hp
        | exit id =>
          cases h
          refine wp_seq (wp_mono (hrec N x ax st _ _ h1 hr A κ a w hS hF) ?_)
          rintro e a' w' ⟨rfl, hp⟩
          exact ⟨rfl, hp⟩
        | ret =>
          cases h
          refine wp_seq (wp_mono (hrec N x ax st _ _ h1 hr A κ a w hS hF) ?_)
          rintro e a' w' ⟨rfl, hp⟩
          exact ⟨rfl, hp⟩
    · cases hc
  | cond c x y ihx ihy =>
    intro ac st ex st' hc h A κ a w hS hF
    simp only [compileCode] at hc
    split at hc
    · rename_i co ax ay h1 h2 h3
      cases hc
      simp only [F] at h
      have ho := hF.opd h1
      split at h
      · rename_i hb
        rw [hb] at ho
        exact wp_cond_true ho (hrec N x ax st _ st' h2 h A κ a w hS hF)
      · rename_i hb
        rw [hb] at ho
        exact wp_cond_false ho (hrec N y ay st _ st' h3 h A κ a w hS hF)
      · cases h
    · cases hc
  | block id x ih =>
    intro ac st ex st' hc h A κ a w hS hF
    simp only [compileCode] at hc
    cases hx : compileCode P x with
    | none => simp [hx] at hc
    | some ax =>
      simp [hx] at hc; subst hc
      simp only [F] at h
      cases hr : rec N ax st with
      | none => rw [hr] at h; cases h
      | some r =>
        obtain ⟨ex1, st1⟩ := r
        rw [hr] at h
        refine wp_block (wp_mono (hrec N x ax st _ st1 hx hr A κ a w hS hF) ?_)
        rintro e a' w' ⟨rfl, hp⟩
        cases ex1 with
        | normal => cases h; exact ⟨rfl, hp⟩
        | exit j =>
          simp only at h
          split at h
          · rename_i hj
            cases h
            simp only [toExit, Exit.inBlock, hj, if_true]
            exact ⟨rfl, hp⟩
          · rename_i hj
            cases h
            simp only [toExit, Exit.inBlock, hj, if_false]
            exact ⟨rfl, hp⟩
        | ret => cases h; exact ⟨rfl, hp⟩
  | loop x ih =>
    intro ac st ex st' hc h A κ a w hS hF
    simp only [compileCode] at hc
    cases hx : compileCode P x with
    | none => simp [hx] at hc
    | some ax =>
      simp [hx] at hc; subst hc
      obtain ⟨m, hm⟩ := sim_step hA hrec hloop N x ax st ex st' hx h
      exact wp_loop_rounds m (hm A κ a w hS hF)
  | rangeFunc f ps x y ihx ihy =>
    intro ac st ex st' hc h
    simp [compileCode] at hc; subst hc
    simp [F] at h
  | exit id =>
    intro ac st ex st' hc h A κ a w hS hF
    simp [compileCode] at hc; subst hc
    simp [F] at h; obtain ⟨rfl, rfl⟩ := h
    exact wp_exit ⟨rfl, κ, .refl _ _, hS, hF⟩
  | scope x ih =>
    intro ac st ex st' hc h A κ a w hS hF
    simp only [compileCode] at hc
    refine wp_scope_straight (wp_mono (ih ac st ex st' hc h A κ a w hS hF) ?_)
    rintro e a' w' ⟨rfl, hp⟩
    cases ex <;> exact ⟨rfl, hp⟩
  | goto l =>
    intro ac st ex st' hc h
    simp [compileCode] at hc; subst hc
    simp [F] at h
  | ret =>
    intro ac st ex st' hc h A κ a w hS hF
    simp [compileCode] at hc; subst hc
    simp [F] at h; obtain ⟨rfl, rfl⟩ := h
    exact wp_ret ⟨rfl, κ, .refl _ _, hS, hF⟩
  | refuse s =>
    intro ac st ex st' hc h
    simp [compileCode] at hc; subst hc
    simp [F] at h

theorem exec_sim : ∀ n, SimRec P (exec AP n) ∧ SimLoop P (exec AP n)
  | 0 => ⟨fun N c ac st ex st' _ h => by simp [exec] at h, fun N c ac st ex st' _ h => by simp [exec] at h⟩
  | n + 1 =>
    have ⟨h1, h2⟩ := exec_sim n
    ⟨sim_code hA h1 h2, sim_step hA h1 h2⟩

/-- **what the machine answers the model answers**: a function called on values that stand for the machine's -/
theorem call_sound {n f : Nat} {args : List AVal} {r : AVal} (h : callI AP (exec AP n) f args = some r) {A : Nat → Prop} {w : World} (hAv : ∀ c, A c → c < w.heap.size) {vs : List Value} (hv : RepV [] A w args vs) :
    Does P f vs.toArray w fun v w' => Ext [] w [] w' ∧ Rep [] A w' r v := by
  unfold callI at h
  split at h
  · rename_i r0 S1 hc
    split at h
    · rename_i r' ids' hr
      cases h
      have hargs : RepV [] (Avoid A []) w args vs := ⟨hv.1, fun i a v ha hvv => by
        have := hv.2 i a v ha hvv
        have hp : Pres [] A w [] (Avoid A []) w := ⟨fun b e h => by simp at h, Nat.le_refl _, fun c hc hl => ⟨fun h => hc ((avoid_nil c).1 h), rfl⟩, fun _ _ _ h => h⟩
        exact rep_mono hp a v this⟩
      refine (callS_sound hA (exec_sim hA n).1 hc (rs_empty (A := A) hAv) hargs).mono ?_
      rintro v w' ⟨κ1, k1, k2, k3⟩
      refine ⟨⟨fun b e h => by simp at h, k1.size, fun c hn hl => ⟨fun ⟨b, x, h, _⟩ => by simp at h, (k1.keep c hn hl).2⟩, k1.shape, k1.env⟩, ?_⟩
      exact (frz_rep (κ2 := []) (T' := A) k2 (fun c hc h => hc (.inl h)) _ _ _ _ _ hr (.inr fun b y hb hT => (k2.av _ hT).2 ⟨b, y, hb, rfl⟩) k3).2
    · cases h
  · cases h

end

end Go.Eng

