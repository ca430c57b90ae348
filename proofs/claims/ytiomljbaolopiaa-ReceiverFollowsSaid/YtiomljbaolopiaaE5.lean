/- A part of the engine: a machine over abstract values, and the proof that the program does what it does; no condition. -/
import Derived.Test.YtiomljbaolopiaaE4
import Derived.Laws.Externs
set_option linter.unusedSectionVars false
set_option linter.unusedVariables false
set_option linter.unusedSimpArgs false
set_option linter.unnecessarySimpa false
/- Functions of which the proof is done by hand, that take blocks over. -/
namespace Go.Eng
open Go

/-- what such a function does: in a store of the handed blocks alone -/
def KeepDoes (P : Program) (f : FuncId) (args : List AVal) (S : Store) (r : AVal) (S1 : Store) : Prop :=
  ∀ (A : Nat → Prop) (κ : Kap) (w : World) (vs : List Value), RS A κ S w → RepV κ (Avoid A κ) w args vs →
    Does P f vs.toArray w fun v w' => ∃ κ', Ext κ w κ' w' ∧ RS A κ' S1 w' ∧ Rep κ' (Avoid A κ') w' r v

def primKeep (g : List AVal → Store → Option (AVal × Store)) : Prim := fun slot args =>
  (moveArgs args 0).bind fun r => if nodup r.2.2 then
    match g r.1 (r.2.1.map some) with
    | some (v, S) => keepRes slot r.2.2 v S
    | none => .fail
  else .fail

theorem primKeep_ok {P : Program} {f : FuncId} {g : List AVal → Store → Option (AVal × Store)} (hg : ∀ args S v S1, g args S = some (v, S1) → KeepDoes P f args S v S1) : PrimOk P f (primKeep g) := by
  intro A κ S w slot all vs e rds h hS hs hv
  show Does P f vs.toArray w fun v w' => CRes A κ S w slot e v w'
  unfold primKeep at h
  obtain ⟨⟨as, blks, ids⟩, i1, i2, h1, h2, -⟩ := run_bind h
  simp only at h2
  clear h
  split at h2
  · rename_i hnd
    split at h2
    · rename_i v0 S1 hc
      obtain ⟨g1, g2, g3⟩ := moveArgs_spec hS all 0 as blks ids _ h1
      let κ0 : Kap := (List.range ids.length).map fun i => ((ids[i]?).bind fun b => κ[b]?).getD none
      have hid : ∀ (i : Nat) b, ids[i]? = some b → ∃ x, κ[b]? = some (some (some x)) := fun i b hb => by
        obtain ⟨_, x, _, _, hx, _⟩ := g2 i b hb; exact ⟨x, hx⟩
      have hκ0 : ∀ (i : Nat), κ0[i]? = (ids[i]?).bind fun b => κ[b]? := by
        intro i
        simp only [κ0, List.getElem?_map]
        rcases Nat.lt_or_ge i ids.length with hl | hl
        · rw [List.getElem?_range hl]
          have hi : ids[i]? = some ids[i] := by simp [hl]
          obtain ⟨x, hx⟩ := hid i _ hi
          simp only [Option.map_some, hi, Option.bind_some, hx, Option.getD_some]
        · rw [List.getElem?_eq_none (by simp; exact hl), List.getElem?_eq_none hl]; rfl
      have h0 : ∀ c, Trk κ0 c → Trk κ c := by
        rintro c ⟨i, x, hi, hx⟩
        rw [hκ0] at hi
        cases hb : ids[i]? with
        | none => simp [hb] at hi
        | some b => simp [hb] at hi; exact ⟨b, x, hi, hx⟩
      have hav : ∀ c, ¬ Avoid A κ c → ¬ Avoid (fun c => Avoid A κ c ∧ ¬ Trk κ0 c) κ0 c := by
        rintro c hc (h | h)
        · exact hc h.1
        · exact hc (.inr (h0 c h))
      have hlen0 : κ0.length = ids.length := by simp [κ0]
      have hS0 : RS (fun c => Avoid A κ c ∧ ¬ Trk κ0 c) κ0 (blks.map some) w := by
        refine ⟨by simp [hlen0, g1], ?_, ?_, ?_, fun c hc => ⟨hS.avoid_lt c hc.1, hc.2⟩⟩
        · intro i hi
          rw [List.getElem?_map] at hi
          cases hb : blks[i]? <;> simp [hb] at hi
        · intro i blk hi
          rw [List.getElem?_map] at hi
          cases hb : blks[i]? with
          | none => simp [hb] at hi
          | some blk' =>
            simp [hb] at hi; subst hi
            have hl : i < ids.length := by rw [← g1]; exact (List.getElem?_eq_some_iff.1 hb).1
            have hi : ids[i]? = some ids[i] := by simp [hl]
            obtain ⟨blk2, x, q1, q2, q3, q4⟩ := g2 i _ hi
            rw [hb] at q1; cases q1
            obtain ⟨x', hx', hok⟩ := hS.live _ _ q2
            rw [q3] at hx'; cases hx'
            refine ⟨x, by rw [hκ0, hi]; simpa using q3, hok.sz, hok.rn, hok.cells, repLL_noref hav _ _ _ q4 hok.rep⟩
        · intro i j x y hi hj he
          rw [hκ0] at hi hj
          cases hbi : ids[i]? with
          | none => simp [hbi] at hi
          | some bi =>
            cases hbj : ids[j]? with
            | none => simp [hbj] at hj
            | some bj =>
              simp [hbi] at hi; simp [hbj] at hj
              have := hS.inj _ _ _ _ hi hj he
              subst this
              exact nodup_spec hnd i j _ hbi hbj
      have hargs := g3 κ0 (Avoid (fun c => Avoid A κ c ∧ ¬ Trk κ0 c) κ0) (fun i b hb => by rw [Nat.zero_add, hκ0, hb]; rfl) hav vs hv
      refine (hg _ _ _ _ hc _ _ _ _ hS0 hargs).mono ?_
      rintro u w' ⟨κ1, k1, k2, k3⟩
      obtain ⟨b1, b2, b3⟩ := keep_back (S := S) hS hκ0 hid k1 k2
      have hkfree : ∀ (j : Nat), κ[j]? = some none → (killK κ ids)[j]? = some none := by
        intro j hj
        rw [killK_get, if_neg]
        · exact hj
        · rintro ⟨hm, _⟩
          obtain ⟨i, hi⟩ := List.mem_iff_getElem?.1 hm
          obtain ⟨x, hx⟩ := hid i j hi
          rw [hj] at hx; cases hx
      unfold keepRes at h2
      split at h2
      · rename_i j off len full
        split at h2
        · rename_i blk hj
          split at h2
          · rename_i hrn
            simp only [RM.run, Option.some.injEq, Prod.mk.injEq] at h2
            obtain ⟨rfl, -⟩ := h2
            obtain ⟨x1, hx1, hok1⟩ := k2.live j blk hj
            have hs' := hkfree slot hs
            have hna : ¬ Avoid A (killK κ ids) x1.cb := fun hc => (k2.av _ (b3 _ hc)).2 ⟨j, x1, hx1, rfl⟩
            have htrk : ∀ c, Avoid A ((killK κ ids).set slot (some (some x1))) c → Avoid (fun c => Avoid A κ c ∧ ¬ Trk κ0 c) κ1 c := by
              rintro c (hc | ⟨i, y, hi, rfl⟩)
              · exact .inl (b3 c (.inl hc))
              · rw [set_get] at hi
                split at hi
                · cases hi; exact .inr ⟨j, x1, hx1, rfl⟩
                · exact .inl (b3 _ (.inr ⟨i, y, hi, rfl⟩))
            have hklen : slot < (killK κ ids).length := (List.getElem?_eq_some_iff.1 hs').1
            have hext2 : Ext κ w ((killK κ ids).set slot (some (some x1))) w' := by
              refine ⟨fun b ev hb => ?_, b1.size, fun c hn hl => ⟨?_, (b1.keep c hn hl).2⟩, b1.shape, b1.env⟩
              · obtain ⟨ev', e1, e2⟩ := b1.kle b ev hb
                refine ⟨ev', ?_, e2⟩
                rw [set_get, if_neg]
                · exact e1
                · rintro ⟨rfl, _⟩; rw [hs'] at e1; cases e1
              · rintro ⟨i, y, hi, hy⟩
                rw [set_get] at hi
                split at hi
                · cases hi
                  exact (k1.keep c (fun h => hn (h0 c h)) hl).1 ⟨j, x1, hx1, hy⟩
                · exact (b1.keep c hn hl).1 ⟨i, y, hi, hy⟩
            have hsub : ∀ c, ¬ Avoid (fun c => Avoid A κ c ∧ ¬ Trk κ0 c) κ1 c → ¬ Avoid A ((killK κ ids).set slot (some (some x1))) c := fun c hc h => hc (htrk c h)
            refine ⟨(killK κ ids).set slot (some (some x1)), hext2, ?_, ?_, fun i hi hn => ?_⟩
            · refine rs_import b2 hs' (k2.lt hx1) hna hok1.sz hok1.rn hok1.cells (repLL_noref hsub _ _ _ hrn hok1.rep) ?_
              intro b blk' hb y hy _
              rw [applyWr_none_get] at hb
              split at hb
              · cases hb
              · rename_i hnn
                obtain ⟨y', hy', hok⟩ := hS.live b blk' hb
                rw [killK_get] at hy
                split at hy
                · cases hy
                · rw [hy'] at hy; cases hy
                  have hl : b < S.length := (List.getElem?_eq_some_iff.1 hb).1
                  have hni : b ∉ ids := fun hm => hnn ⟨hm, hl⟩
                  have hnt : ¬ Trk κ0 y.cb := by
                    rintro ⟨i, z, hi, hz⟩
                    rw [hκ0] at hi
                    cases hbi : ids[i]? with
                    | none => simp [hbi] at hi
                    | some bi =>
                      simp [hbi] at hi
                      have := hS.inj _ _ _ _ hi hy' hz
                      subst this
                      exact hni (List.mem_of_getElem? hbi)
                  exact hok.mono hext2 (k1.keep _ hnt (hS.lt hy')).2
            · obtain ⟨ev, cb, of, cap, q1, rfl, q3⟩ := k3
              rw [hx1] at q1; cases q1
              obtain ⟨p1, p2, p3, p4, p5⟩ := q3 x1 rfl
              exact ⟨some x1, cb, of, cap, slot_get hs', rfl, fun y hy => by cases hy; exact ⟨p1, p2, p3, p4, p5⟩⟩
            · rw [set_get, if_neg (fun h => hi h.1.symm)]
              exact hkfree i hn
          · exact (run_fail h2).elim
        · exact (run_fail h2).elim
      · rename_i hr0
        split at h2
        · rename_i hrn
          simp only [RM.run, Option.some.injEq, Prod.mk.injEq] at h2
          obtain ⟨rfl, -⟩ := h2
          exact ⟨killK κ ids, b1, b2, rep_noref (fun c hc h => hc (.inl (b3 c h))) _ _ hrn k3, fun j _ hj => hkfree j hj⟩
        · exact (run_fail h2).elim
    · exact (run_fail h2).elim
  · exact (run_fail h2).elim

end Go.Eng

/- A function's body, walked in part by the machine, in part by hand. -/
namespace Go.Eng
open Go

section
variable {P : Program} {AP : AProg} (hA : AOk P AP)

include hA in
theorem wp_of_tc {c : Code} {ac : ACode} {N : Nat} {m : FM} {S : Store} {Qt : AExit → FM → Store → Prop} (hc : compileCode P c = some ac) (h : TC AP N ac m S Qt)
    {A : Nat → Prop} {κ : Kap} {w : World} {fr : List AVal} {a : Act} (hfr : Fr fr m) (hS : RS A κ S w) (hF : RF A κ w N fr a) {Q : Exit → Act → World → Prop}
    (hq : ∀ ex fr' m' S' κ' a' w', Fr fr' m' → Qt ex m' S' → Ext κ w κ' w' → RS A κ' S' w' → RF A κ' w' N fr' a' → Q (toExit ex) a' w') : c.wp P Q a w := by
  obtain ⟨ex, fr', m', S', h1, h2, n, h3⟩ := h fr hfr
  refine wp_mono ((exec_sim hA n).1 N c ac ⟨fr, S⟩ ex ⟨fr', S'⟩ hc (h3 n (Nat.le_refl _)) A κ a w hS hF) ?_
  rintro e a' w' ⟨rfl, κ', k1, k2, k3⟩
  exact hq ex fr' m' S' κ' a' w' h1 h2 k1 k2 k3

/-- a body, walked -/
theorem does_of_wp {f : FuncId} {af : AFunc} (haf : compileAt P f = some af) {A : Nat → Prop} {κ : Kap} {S : Store} {w : World} {args : List AVal} {vs : List Value} (hS : RS A κ S w) (hv : RepV κ (Avoid A κ) w args vs) (hlen : args.length = af.nargs)
    {K : Value → World → Prop}
    (h : ∀ (fn : Func) (b : Code) (a : Act), P.funcs[f]? = some fn → fn.body = some b → compileCode P b = some af.body → RF A κ w (max af.nargs af.N) args a → b.wp P (fun e a' w' => (e = .normal ∨ e = .ret) ∧ ∃ fr' S' κ' us, RS A κ' S' w' ∧ RF A κ' w' (max af.nargs af.N) fr' a' ∧ aresL ⟨fr', S'⟩ af.res = some us ∧ ∀ v, Rep κ' (Avoid A κ') w' (one us) v → K v w') a w) :
    Does P f vs.toArray w K := by
  obtain ⟨fn, b, h1, h2, h3, h4, h5, h6⟩ := compileAt_spec haf
  refine .inl ⟨fn, h1, h3, by simp [h2], calls_of_wp h1 h2 ?_⟩
  have hF : RF A κ w (max af.nargs af.N) args { tmps := vs.toArray ++ Array.replicate (fn.ntmps - vs.toArray.size) undef, defers := [] } := by
    have hl : vs.length = af.nargs := by rw [← hlen]; exact hv.1.symm
    refine ⟨rfl, by simp [hl, h6]; omega, fun t => ?_⟩
    have := get_rep hv t (List.replicate (fn.ntmps - vs.length) undef)
    simp only [Act.eval]
    rw [Array.getD_eq_getD_getElem?]
    have e : (vs.toArray ++ Array.replicate (fn.ntmps - vs.toArray.size) undef)[t]? = (vs ++ List.replicate (fn.ntmps - vs.length) undef)[t]? := by
      rw [← Array.getElem?_toList]; simp
    rw [e]; exact this
  refine wp_mono (h fn b _ h1 h2 h4 hF) ?_
  rintro e a' w' ⟨he, fr', S', κ', us, k2, k3, hus, hk⟩
  obtain ⟨v, g1, g2⟩ := results_spec (P := P) k2 k3 h5 hus
  rcases he with rfl | rfl
  · exact ⟨k3.defers, v, g1, v, rfl, hk v g2⟩
  · exact ⟨k3.defers, v, g1, v, rfl, hk v g2⟩

section
variable {A : Nat → Prop} {κ : Kap} {S : Store} {w : World} {N : Nat} {fr : List AVal} {a : Act} {ops : Array Oper}
/-- operations in order, of which the machine does the first ones -/
theorem stepL_wp' {rec : Rec} (hA : AOk P AP) (hrec : SimRec P rec) {Q : Exit → Act → World → Prop} {rest : List Nat} : ∀ (l : List Oper) (k : Nat) (is : List AInstr) (st st' : St) (κ : Kap) (a : Act) (w : World), (∀ (j : Nat) o, l[j]? = some o → ops[k + j]? = some o) → compileSeq P ops l = some is → RS A κ st.S w → RF A κ w N st.fr a →
    stepL AP rec N is st = some st' → (∀ a' w' κ', Ext κ w κ' w' → RS A κ' st'.S w' → RF A κ' w' N st'.fr a' → wpOps P ops Q rest a' w') → wpOps P ops Q (List.range' k l.length ++ rest) a w
  | [], k, is, st, st', κ, a, w, hl, hc, hS, hF, h, hq => by
    simp [compileSeq] at hc; subst hc
    simp [stepL] at h; subst h
    simpa using hq a w κ (.refl _ _) hS hF
  | o :: l, k, is, st, st', κ, a, w, hl, hc, hS, hF, h, hq => by
    simp only [compileSeq] at hc
    split at hc
    · rename_i i is' h1 h2
      cases hc
      simp only [stepL] at h
      split at h
      · rename_i st1 hst
        rw [List.length_cons, List.range'_succ, List.cons_append, wpOps_cons]
        refine step1_wp hA hrec (by have := hl 0 o rfl; simpa using this) h1 hS hF hst ?_
        intro a' w' κ' k1 k2 k3
        exact stepL_wp' hA hrec l (k + 1) is' st1 st' κ' a' w' (fun j o' hj => by have := hl (j + 1) o' hj; simpa [Nat.add_assoc, Nat.add_comm 1 j] using this) h2 k2 k3 h
          (fun a'' w'' κ'' q1 q2 q3 => hq a'' w'' κ'' (k1.trans q1) q2 q3)
      · cases h
    · cases hc
end

theorem compSeq_split {P : Program} {ops : Array Oper} : ∀ (is1 is2 : List AInstr) (l : List Oper), compileSeq P ops l = some (is1 ++ is2) → ∃ l1 l2, l = l1 ++ l2 ∧ compileSeq P ops l1 = some is1 ∧ compileSeq P ops l2 = some is2 ∧ l1.length = is1.length
  | [], is2, l, h => ⟨[], l, rfl, rfl, h, rfl⟩
  | y :: is1, is2, [], h => by simp [compileSeq] at h
  | y :: is1, is2, x :: l, h => by
    simp only [compileSeq] at h
    split at h
    · rename_i j js g1 g2
      simp only [List.cons_append, Option.some.injEq, List.cons.injEq] at h
      obtain ⟨rfl, rfl⟩ := h
      obtain ⟨l1, l2, rfl, e1, e2, e3⟩ := compSeq_split is1 is2 l g2
      exact ⟨x :: l1, l2, rfl, by simp only [compileSeq, g1, e1], e2, by simp [e3]⟩
    · cases h
theorem compSeq_len {P : Program} {ops : Array Oper} : ∀ (is : List AInstr) (l : List Oper), compileSeq P ops l = some is → l.length = is.length
  | [], [], _ => rfl
  | _ :: _, [], h => by simp [compileSeq] at h
  | [], x :: l, h => by simp only [compileSeq] at h; split at h <;> cases h
  | y :: is, x :: l, h => by
    simp only [compileSeq] at h
    split at h
    · rename_i j js g1 g2
      cases h
      simp [compSeq_len _ l g2]
    · cases h

/-- a region's first operations, by the machine -/
theorem region_pre (hA : AOk P AP) {id : Nat} {ops : Array Oper} (is1 is2 : List AInstr) {N : Nat} {m : FM} {S : Store}
    (hc : compileSeq P ops ops.toList = some (is1 ++ is2)) {K1 : FM → Store → Prop} (h1 : TL AP N is1 m S K1)
    {A : Nat → Prop} {κ : Kap} {w : World} {fr : List AVal} {a : Act} (hfr : Fr fr m) (hS : RS A κ S w) (hF : RF A κ w N fr a) {Q : Exit → Act → World → Prop}
    (h2 : ∀ fr1 m1 S1 κ1 a1 w1, Fr fr1 m1 → K1 m1 S1 → Ext κ w κ1 w1 → RS A κ1 S1 w1 → RF A κ1 w1 N fr1 a1 → wpOps P ops Q (List.range' is1.length is2.length) a1 w1) : (Code.region id ops false).wp P Q a w := by
  obtain ⟨l1, l2, hl, e1, e2, e3⟩ := compSeq_split is1 is2 ops.toList hc
  have hget : ∀ (j : Nat), ops[j]? = (l1 ++ l2)[j]? := fun j => by rw [← hl]; simp
  have hsz : ops.size = l1.length + l2.length := by
    have := congrArg List.length hl
    simpa using this
  refine wp_region ?_
  rw [List.range_eq_range', hsz, ← List.range'_append_1, Nat.zero_add]
  obtain ⟨fr1, m1, S1, f1, f2, n1, f3⟩ := h1 fr hfr
  refine stepL_wp' hA (exec_sim hA n1).1 l1 0 is1 ⟨fr, S⟩ ⟨fr1, S1⟩ κ a w (fun j x hj => by rw [Nat.zero_add, hget, List.getElem?_append_left (List.getElem?_eq_some_iff.1 hj).1]; exact hj) e1 hS hF (f3 n1 (Nat.le_refl _)) ?_
  intro a1 w1 κ1 q1 q2 q3
  rw [e3, compSeq_len _ _ e2]
  exact h2 fr1 m1 S1 κ1 a1 w1 f1 f2 q1 q2 q3

/-- one operation, by hand -/
theorem ops_hand {ops : Array Oper} {k n : Nat} {o : Oper} (ho : ops[k]? = some o) (hg : o.guard = none) {Q : Exit → Act → World → Prop} {a : Act} {w : World}
    (h : o.wp P a w (fun a w => wpOps P ops Q (List.range' (k + 1) n) a w) Q) : wpOps P ops Q (List.range' k (n + 1)) a w := by
  rw [List.range'_succ, wpOps_cons]
  unfold wpOp
  have hwant : Region.wanted o (yielded ops a.tmps) = true := by unfold Region.wanted; rw [hg]
  simp only [ho, hwant, if_true]
  exact .inl h

/-- a region's last operations, by the machine -/
theorem region_post (hA : AOk P AP) {ops : Array Oper} (is1 is2 : List AInstr) {N : Nat} {m : FM} {S : Store}
    (hc : compileSeq P ops ops.toList = some (is1 ++ is2)) {K2 : FM → Store → Prop} (h1 : TL AP N is2 m S K2)
    {A : Nat → Prop} {κ : Kap} {w : World} {fr : List AVal} {a : Act} (hfr : Fr fr m) (hS : RS A κ S w) (hF : RF A κ w N fr a) {Q : Exit → Act → World → Prop}
    (h2 : ∀ fr1 m1 S1 κ1 a1 w1, Fr fr1 m1 → K2 m1 S1 → Ext κ w κ1 w1 → RS A κ1 S1 w1 → RF A κ1 w1 N fr1 a1 → Q .normal a1 w1) : wpOps P ops Q (List.range' is1.length is2.length) a w := by
  obtain ⟨l1, l2, hl, e1, e2, e3⟩ := compSeq_split is1 is2 ops.toList hc
  have hget : ∀ (j : Nat), ops[j]? = (l1 ++ l2)[j]? := fun j => by rw [← hl]; simp
  obtain ⟨fr1, m1, S1, f1, f2, n1, f3⟩ := h1 fr hfr
  rw [← e3, ← compSeq_len _ _ e2]
  exact stepL_wp hA (exec_sim hA n1).1 l2 l1.length is2 ⟨fr, S⟩ ⟨fr1, S1⟩ κ a w (fun j => by rw [hget, List.getElem?_append_right (by omega), Nat.add_sub_cancel_left]) e2 hS hF (f3 n1 (Nat.le_refl _))
    (fun a3 w3 κ3 s1 s2 s3 => h2 fr1 m1 S1 κ3 a3 w3 f1 f2 s1 s2 s3)
end
end Go.Eng

/- slices.overlaps: of a slice that nobody writes, and one in the store. -/
namespace Go.Eng
open Go

def ovPrim (sz : Nat) : Prim := fun _ args => match args with
  | [.imm (r :: _), .view b off len _] => .rd b fun blk => if blk.sz = sz ∧ sz ≠ 1 ∧ 0 < sz ∧ 0 < blk.rows.length ∧ 0 < len ∧ off + len ≤ blk.rows.length ∧ r.length = sz then .ok ⟨.bool false, none, []⟩ else .fail
  | _ => .fail

theorem shape_of_cell {w : World} {b o : Nat} {v : Value} (h : w.cell? ⟨b, o, none⟩ = some v) : ∃ el n, w.shape? b = some (el, n) ∧ o < n := by
  unfold World.cell? at h
  cases hb : w.heap[b]? with
  | none => simp [hb] at h
  | some ob =>
    cases ob with
    | cells cs el fz =>
      simp [hb] at h
      refine ⟨el, cs.size, by simp [World.shape?, hb], ?_⟩
      rcases Nat.lt_or_ge o cs.size with h1 | h1
      · exact h1
      · simp [Array.getElem?_eq_none h1] at h
    | _ => simp [hb] at h

theorem run_overlaps {P : Program} (w : World) (tS tR e : TypeId) (ht : P.underlying tS = some (.slice e)) (size : Nat) (hz : (Go.sizeOf e).run P w = .ok size w)
    (a b : Addr) (la ca lb cb : Nat) (hne : a.block ≠ b.block) (tA tB : TypeId) (kA kB : Nat)
    (hsa : w.shape? a.block = some (tA, kA)) (hsb : w.shape? b.block = some (tB, kB)) (hkA : kA ≠ 0) (hkB : kB ≠ 0)
    (hfb : w.frozen? b = false) (hfe : w.frozen? { block := b.block, off := kB } = false) :
    (Extern.SlicesOverlaps.overlaps #[tS, tS] #[tR] #[.slice (some a) la ca, .slice (some b) lb cb]).run P w = .ok (.bool false) w := by
  have hnb : (a.block != b.block) = true := by simpa using hne
  have hnb' : (a.block == b.block) = false := by simpa using hne
  change Sem.run P (α := Value) (do
    let some t := (#[tS, tS] : Array TypeId)[0]? | stuck "slices.overlaps: no parameter types"
    let .slice elem ← underlying t | stuck "slices.overlaps: slice type expected"
    let size ← sizeOf elem
    match (some a : Option Addr), (some b : Option Addr) with
    | some a, some b =>
      if la = 0 ∨ lb = 0 ∨ size = 0 then pure (Value.bool false)
      else if a.block != b.block && (← frozen a) && (← frozen b) then unsupported .addressObserved
      else do
        if a.block != b.block then do
          noView a; noView b
          if ← mayBeOne a b then return Value.bool ((← choose (.extern "sameAddr.stringBytes" 2)) == 1)
        pure (Value.bool (a.block == b.block && a.off < b.off + lb * size && b.off < a.off + la * size))
    | _, _ => pure (Value.bool false)) w = _
  by_cases h0 : la = 0 ∨ lb = 0 ∨ size = 0
  · simp [run_underlying ht, hz, h0]
  · cases kA with
    | zero => exact absurd rfl hkA
    | succ kA =>
      cases kB with
      | zero => exact absurd rfl hkB
      | succ kB =>
        cases hA1 : w.frozen? a <;> cases hA2 : w.frozen? { block := a.block, off := kA + 1 } <;>
          simp [run_underlying ht, hz, h0, hnb, hnb', frozen, noView, viewAt, mayBeOne, stringish, shape, Sem.run, hsa, hsb, hfb, hfe, hA1, hA2]

theorem frozen_of_heap {w : World} {b o lo hi : Nat} {cells : Array Value} {el : TypeId} (h : w.heap[b]? = some (.cells cells el (lo, hi))) (hn : ¬ (lo ≤ o ∧ o < hi)) : w.frozen? ⟨b, o, none⟩ = false := by
  unfold World.frozen?
  rw [h]
  simp only [Bool.and_eq_false_iff, decide_eq_false_iff_not]
  omega

theorem overlaps_ok {P : Program} {f : FuncId} {fn : Func} {tS tR e : TypeId} {sz : Nat} (hf : P.funcs[f]? = some fn) (hname : (fn.name == "runtime.NumGoroutine") = false) (hb : fn.body.isNone = true) (hn : Extern.findNext fn = none)
    (he : Extern.find fn = some (Extern.SlicesOverlaps.overlaps #[tS, tS] #[tR])) (ht : P.underlying tS = some (.slice e)) (hsz : sizeA P e = some sz) : PrimOk P f (ovPrim sz) := by
  intro A κ S w slot args vs eff rds h hS hs hv
  unfold ovPrim at h
  split at h
  · rename_i r rs b off len full
    obtain ⟨blk, rl, hblk, h2, -⟩ := run_rd h
    split at h2
    · rename_i hc
      obtain ⟨c1, c2, c3, c4, c5, c6, c7⟩ := hc
      simp only [RM.run, Option.some.injEq, Prod.mk.injEq] at h2
      obtain ⟨rfl, -⟩ := h2
      match vs, hv with
      | [va, vb], hv =>
        obtain ⟨pa, na, ca, rfl, -, -, -, ha⟩ := hv.head
        obtain ⟨sz', cb', o', rfl, hlt, hnT, hrep⟩ := ha (by simp)
        obtain ⟨ev, cb, of, cap, g1, rfl, g3⟩ := hv.tail.head
        obtain ⟨x, hx, hok⟩ := hS.live b blk hblk
        rw [g1] at hx; cases hx
        obtain ⟨p1, p2, p3, p4, el, n, p5, p6⟩ := g3 x rfl
        obtain ⟨cells, el', lo, hi, hcl, hfz, hbs⟩ := hok.cells
        have hn : n = cells.size ∧ el = el' := by simp [World.shape?, hcl] at p5; exact ⟨p5.2.symm, p5.1.symm⟩
        obtain ⟨rfl, rfl⟩ := hn
        obtain ⟨q1, q2⟩ := p4 (by omega)
        subst q1
        have hne : cb' ≠ x.cb := fun he => hnT (.inr ⟨b, x, g1, he.symm⟩)
        obtain ⟨h1, h3, -⟩ := hrep
        have hcell : ∃ v, w.cell? ⟨cb', o' + 0, none⟩ = some v := by
          cases r with
          | nil => simp at c7; omega
          | cons a0 r => obtain ⟨⟨v, hv, _⟩, _⟩ := h3; exact ⟨v, hv⟩
        obtain ⟨v, hv⟩ := hcell
        obtain ⟨tA, kA, hsa, hkA⟩ := shape_of_cell hv
        have hsz1 : x.sz = sz := by rw [hok.sz, c1]
        have hoff : of < cells.size := by
          have h1 : (off + 1) * x.sz ≤ (off + cap) * x.sz := Nat.mul_le_mul_right _ (by omega)
          rw [Nat.add_mul] at h1
          omega
        have hcs : 0 < cells.size := by omega
        have hif : (if blk.sz = 1 then 0 else 1) = 1 := by rw [if_neg (by omega)]
        refine .inr ⟨.bool false, w, ?_, κ, .refl _ _, hS, rfl, fun _ _ h => h⟩
        rw [run_callFunc_extern hf hname hb hn he, run_overlaps w tS tR e ht sz (size_run hsz) ⟨cb', o', none⟩ ⟨x.cb, of, none⟩ na ca len cap hne tA el kA cells.size hsa p5 (by omega) (by omega)
          (frozen_of_heap hcl (hfz of (by omega))) (frozen_of_heap hcl (hfz cells.size (by omega)))]
        rfl
      | [], hv => have := hv.1; simp at this
      | [_], hv => have := hv.1; simp at this
      | _ :: _ :: _ :: _, hv => have := hv.1; simp at this
    · exact (run_fail h2).elim
  · exact (run_fail h).elim

end Go.Eng

/- cap; append of make; copy; a block told to its capacity. -/
namespace Go.Eng
open Go

section
variable {P : Program} {A : Nat → Prop} {κ : Kap} {S : Store} {w w' : World} {N : Nat} {fr : List AVal} {a : Act} {o : Oper} {slot : Nat} {T : Nat → Prop}

theorem run_cap {t el : TypeId} {x : Operand} {p : Option Addr} {n c : Nat} (ho : o.op = .call ⟨.builtin .cap, #[x], #[t]⟩) (ht : P.underlying t = some (.slice el)) (hx : a.eval x = .slice p n c) :
    (execOp a.eval o).run P w = .ok (.value (.int .i64 c)) w := by
  have hb : (Builtin.cap_ #[t] o.type #[.slice p n c]).run P w = .ok (.int .i64 c) w := by
    have e0 : (#[t] : Array TypeId)[0]? = some t := rfl
    have e1 : (#[Value.slice p n c] : Array Value)[0]? = some (.slice p n c) := rfl
    unfold Builtin.cap_
    simp only [e0, e1, Sem.run_bind, run_underlying ht, Result.andThen_ok, Sem.run_pure, goInt]
  simp [execOp, ho, resolve, invoke, builtin, hx, hb]

theorem run_append_make {ty t t1 el : TypeId} {i : TypeInfo} {x z : Value} {p : Option Addr} {n c m : Nat} {old : Array Value}
    (hu : P.underlying t = some (.slice el)) (hu1 : P.underlying t1 = some (.int .i64)) (hi : P.info? el = some i) (hz : i.zero = some z)
    (hx : x = .slice p n c) (ho : ∀ w1 : World, w1.heap = w.heap → (Builtin.firstCells i.size n x).run P w1 = .ok old w1) (hc : ¬ n + m ≤ c)
    (hb : (n + m) * i.bytes ≤ 17592186044416) (hbp : 0 < i.bytes) (hsz0 : 0 < i.size) (hm : 0 < m) :
    ∃ w' cap rest, (Builtin.append_ #[t, t1] ty #[x, .int .i64 m]).run P w = .ok (.slice (some ⟨w.heap.size, 0, none⟩) (n + m) cap) w' ∧ n + m ≤ cap ∧
      w'.heap = w.heap.push (.cells (old ++ Builtin.zeroCells z.cells m ++ rest) el (0, 0)) ∧ rest.size = (cap - (n + m)) * z.cells.size ∧ Env w w' := by
  subst hx
  generalize hcapd : Question.cut (.appendCap (n + m) c el) (w.tape w.drawn (.appendCap (n + m) c el)) = cap
  have hcap : n + m ≤ cap := by rw [← hcapd]; simp only [Question.cut]; omega
  have hnx := next_le (need := n + m) (cap := c) (by omega)
  have h48 : ¬ Builtin.nextslicecap (n + m) c * i.bytes > 2 ^ 48 := by
    have : Builtin.nextslicecap (n + m) c * i.bytes ≤ 2 * (n + m) * i.bytes := Nat.mul_le_mul_right _ hnx
    rw [Nat.mul_assoc] at this
    omega
  have hmb : n + m ≤ (n + m) * i.bytes := Nat.le_mul_of_pos_right _ hbp
  have hmb2 : m * i.bytes ≤ (n + m) * i.bytes := Nat.mul_le_mul_right _ (by omega)
  have hmw : IntKind.i64.wrap (m : Int) = m := wrap_i64 (by omega) (by omega)
  have hm0 : ¬ ((m : Int) < 0) := by omega
  have hm48 : ¬ ((m : Int) * (i.bytes : Int) > 2 ^ 48) := by
    have : ((m * i.bytes : Nat) : Int) ≤ 17592186044416 := by omega
    rw [Int.natCast_mul] at this; omega
  have hneed : ¬ (((n + m : Nat) : Int) > IntKind.i64.max) := by simp [IntKind.max, IntKind.signed, IntKind.bits]; omega
  have hfo : Question.forced (.appendCap (n + m) c el) = false := rfl
  have ho' := ho { w with drawn := w.drawn + 1 } rfl
  refine ⟨{ w with drawn := w.drawn + 1, heap := w.heap.push (.cells (old ++ Builtin.zeroCells z.cells m ++ Builtin.zeroCells z.cells (cap - (n + m))) el) }, cap, Builtin.zeroCells z.cells (cap - (n + m)), ?_, hcap, rfl, by simp [Builtin.zeroCells], ⟨rfl, rfl, rfl⟩⟩
  have hb0 : ¬ i.bytes = 0 := by omega
  have hms : ¬ m * i.size = 0 := by
    intro h
    rcases Nat.mul_eq_zero.1 h with h | h
    · omega
    · omega
  have e0 : (#[t, t1] : Array TypeId)[0]? = some t := rfl
  have e1 : (#[t, t1] : Array TypeId)[1]? = some t1 := rfl
  have e2 : (#[Value.slice p n c, Value.int .i64 m] : Array Value)[0]? = some (Value.slice p n c) := rfl
  have e3 : (#[Value.slice p n c, Value.int .i64 m] : Array Value)[1]? = some (.int .i64 m) := rfl
  have hai : ∀ w1 : World, (asInt (Value.int .i64 m)).run P w1 = .ok (m : Int) w1 := fun _ => rfl
  unfold Builtin.append_
  simp only [e0, e1, e2, e3, Sem.run_bind, run_underlying hu, run_underlying hu1, Result.andThen_ok, sizeOf, typeInfo, hi, Sem.run_pure, run_program, if_true, hai, hmw, hm0, if_false, hm48, Int.toNat_natCast]
  simp only [if_neg hc, Bool.not_true, Bool.false_eq_true, if_false, if_true, hms, Sem.run_bind, run_program, hi, Sem.run_pure, true_or, hneed, false_and, if_neg h48, Sem.run_ite,
    run_choose, hfo, hcapd, run_askRoom, ho', zeroValue, typeInfo, hz, newRow, run_newObj, Result.andThen_ok]

end
end Go.Eng

/- Copies; a block told to its capacity; the code's parts. -/
namespace Go.Eng
open Go

section
variable {AP : AProg} {m : FM} {slot : Nat} {S : Store}
theorem o_copy_rows {sz b off len n : Nat} {full : Bool} {x y : AOpd} {rows ys : List (List AVal)} {vy : AVal} (hx : lo m x = some (.view b off len full)) (hy : lo m y = some vy) (hr : rowsOf sz vy = .ok ys)
    (h1 : S[b]? = some (some ⟨sz, rows⟩)) (hn : min ys.length len = n) (hl : off + len ≤ rows.length) (hst : ((ys.take n).all fun r => r.all storable) = true) :
    OpR AP m slot S (.copy sz x y) (.int .i64 n) (S.set b (some ⟨sz, rows.take off ++ ys.take n ++ rows.drop (off + n)⟩)) ([b], [b]) := by
  subst hn
  exact opr_w fun fr hfr k => by simp only [semX, sem, hfr.opd hx, hfr.opd hy, hr, RM.bind, RM.run, h1, hl, hst, and_self, if_true]

theorem o_copy_view {sz b off len n b2 off2 len2 : Nat} {full full2 : Bool} {x y : AOpd} {rows rows2 ys : List (List AVal)} (hx : lo m x = some (.view b off len full)) (hy : lo m y = some (.view b2 off2 len2 full2))
    (h2 : S[b2]? = some (some ⟨sz, rows2⟩)) (hl2 : off2 + len2 ≤ rows2.length) (hys : (rows2.drop off2).take len2 = ys)
    (h1 : S[b]? = some (some ⟨sz, rows⟩)) (hn : min ys.length len = n) (hl : off + len ≤ rows.length) (hst : ((ys.take n).all fun r => r.all storable) = true) :
    OpR AP m slot S (.copy sz x y) (.int .i64 n) (S.set b (some ⟨sz, rows.take off ++ ys.take n ++ rows.drop (off + n)⟩)) ([b2, b], [b]) := fun fr hfr => by
  subst hn hys
  exact ⟨⟨.int .i64 (min ((rows2.drop off2).take len2).length len : Nat), none, [(b, some ⟨sz, rows.take off ++ ((rows2.drop off2).take len2).take (min ((rows2.drop off2).take len2).length len) ++ rows.drop (off + min ((rows2.drop off2).take len2).length len)⟩)]⟩,
    ⟨0, fun k _ => by simp only [semX, sem, hfr.opd hx, hfr.opd hy, rowsOf, RM.bind, RM.run, h1, h2, hl2, hl, hst, and_self, if_true]⟩, rfl, rfl, rfl⟩
end

section
variable {P : Program} {A : Nat → Prop} {κ : Kap} {S : Store} {w w' : World} {N : Nat} {fr : List AVal} {a : Act} {T : Nat → Prop}

theorem repL_undef : ∀ (k : Nat) (g : Nat → Option Value), (∀ j, j < k → (g j).isSome = true) → RepL κ T w (List.replicate k .undef) g
  | 0, _, _ => trivial
  | k + 1, g, h => by
    obtain ⟨v, hv⟩ := Option.isSome_iff_exists.1 (h 0 (by omega))
    exact ⟨⟨v, hv, trivial⟩, repL_undef k _ fun j hj => h (j + 1) (by omega)⟩
theorem repLL_undef {sz : Nat} : ∀ (k : Nat) (g : Nat → Option Value), (∀ j, j < k * sz → (g j).isSome = true) → RepLL κ T w (List.replicate k (List.replicate sz .undef)) sz g
  | 0, _, _ => trivial
  | k + 1, g, h => ⟨by simp, repL_undef sz g fun j hj => h j (by rw [Nat.succ_mul]; omega), repLL_undef k _ fun j hj => h (j + sz) (by rw [Nat.succ_mul]; omega)⟩
theorem repLL_append {sz : Nat} : ∀ (xs ys : List (List AVal)) (g : Nat → Option Value), RepLL κ T w xs sz g → RepLL κ T w ys sz (fun n => g (n + xs.length * sz)) → RepLL κ T w (xs ++ ys) sz g
  | [], ys, g, _, h => by simpa using h
  | x :: xs, ys, g, h, h2 => ⟨h.1, h.2.1, repLL_append xs ys _ h.2.2 (by simpa [Nat.succ_mul, Nat.add_assoc] using h2)⟩

/-- a store of one block alone, told further: the rows behind are anything -/
theorem rs_tell {x : KB} {blk : ABlock} {k : Nat} (h : RS A [some (some x)] [some blk] w) (hn : norefLL blk.rows = true) {el : TypeId} {n : Nat} (hsh : w.shape? x.cb = some (el, n)) (hk : x.sh + (blk.rows.length + k) * blk.sz ≤ n) :
    RS A [some (some { x with rn := blk.rows.length + k })] [some ⟨blk.sz, blk.rows ++ List.replicate k (List.replicate blk.sz .undef)⟩] w := by
  obtain ⟨x', hx', hok⟩ := h.live 0 blk rfl
  have : x' = x := by simpa using hx'.symm
  subst this
  obtain ⟨cells, el', lo, hi, hcl, hfz, hbs⟩ := hok.cells
  have hn' : n = cells.size := by simp [World.shape?, hcl] at hsh; exact hsh.2.symm
  subst hn'
  have htrk : ∀ c, Trk [some (some { x' with rn := blk.rows.length + k })] c → Trk [some (some x')] c := by
    rintro c ⟨i, y, hi, rfl⟩
    cases i with
    | zero => simp at hi; subst hi; exact ⟨0, x', rfl, rfl⟩
    | succ i => simp at hi
  refine ⟨rfl, ?_, ?_, ?_, fun c hc => ⟨(h.av c hc).1, fun ht => (h.av c hc).2 (htrk c ht)⟩⟩
  · intro b hb
    cases b <;> simp at hb
  · intro b blk' hb
    cases b with
    | succ b => simp at hb
    | zero =>
      simp at hb; subst hb
      refine ⟨_, rfl, hok.sz, by simp, ⟨cells, el', lo, hi, hcl, hfz, by simpa using hk⟩, ?_⟩
      refine repLL_append _ _ _ (repLL_noref (fun c hc hh => hc (hh.elim .inl fun ht => .inr (htrk c ht))) _ _ _ hn hok.rep) ?_
      refine repLL_undef k _ fun j hj => cells_isSome hcl ?_
      rw [Nat.add_mul] at hk
      show x'.sh + (j + blk.rows.length * blk.sz) < _
      omega
  · intro b b' y y' hb hb' _
    cases b <;> cases b' <;> simp at hb hb' ⊢

/-- the block that counts, by itself -/
theorem rs_pack {j : Nat} {y : KB} {blk : ABlock} (h : RS A κ S w) (hb : S[j]? = some (some blk)) (hy : κ[j]? = some (some (some y))) (hn : norefLL blk.rows = true) :
    RS A [some none, some (some y)] [none, some blk] w := by
  obtain ⟨y', hy', hok⟩ := h.live j blk hb
  rw [hy] at hy'; cases hy'
  have htrk : ∀ c, Trk [some none, some (some y)] c → Trk κ c := by
    rintro c ⟨i, z, hi, rfl⟩
    match i, hi with
    | 0, hi => simp at hi
    | 1, hi => simp at hi; subst hi; exact ⟨j, y, hy, rfl⟩
    | i + 2, hi => simp at hi
  refine ⟨rfl, ?_, ?_, ?_, fun c hc => ⟨(h.av c hc).1, fun ht => (h.av c hc).2 (htrk c ht)⟩⟩
  · intro b hb
    match b, hb with
    | 0, _ => exact .inr rfl
    | 1, hb => simp at hb
    | b + 2, hb => simp at hb
  · intro b blk' hb
    match b, hb with
    | 0, hb => simp at hb
    | 1, hb =>
      simp at hb; subst hb
      exact ⟨y, rfl, hok.sz, hok.rn, hok.cells, repLL_noref (fun c hc hh => hc (hh.elim .inl fun ht => .inr (htrk c ht))) _ _ _ hn hok.rep⟩
    | b + 2, hb => simp at hb
  · intro b b' z z' hb hb' _
    match b, b', hb, hb' with
    | 0, _, hb, _ => simp at hb
    | 1, 0, _, hb' => simp at hb'
    | 1, 1, _, _ => rfl
    | 1, b' + 2, _, hb' => simp at hb'
    | b + 2, _, hb, _ => simp at hb

theorem ext_pack {x y : KB} {j : Nat} {κ1 : Kap} (h : Ext [some (some x)] w κ1 w') (hy : κ1[j]? = some (some (some y))) : Ext [some (some x)] w [some none, some (some y)] w' := by
  refine ⟨fun b e hb => ?_, h.size, fun c hn hl => ⟨?_, (h.keep c hn hl).2⟩, h.shape, h.env⟩
  · cases b with
    | zero => exact ⟨none, rfl, .inl rfl⟩
    | succ b => simp at hb
  · rintro ⟨i, z, hi, rfl⟩
    match i, hi with
    | 0, hi => simp at hi
    | 1, hi => simp at hi; subst hi; exact (h.keep _ hn hl).1 ⟨j, y, hy, rfl⟩
    | i + 2, hi => simp at hi

/-- what stands behind a retelling stands behind the first telling -/
theorem ext_tell {x y : KB} {κ1 : Kap} {j : Nat} {n : Nat} (h : Ext [some (some { x with rn := n })] w κ1 w') (hy : κ1[j]? = some (some (some y))) : Ext [some (some x)] w [some none, some (some y)] w' := by
  have htrk : ∀ c, Trk [some (some { x with rn := n })] c → Trk [some (some x)] c := by
    rintro c ⟨i, y, hi, rfl⟩
    cases i with
    | zero => simp at hi; subst hi; exact ⟨0, x, rfl, rfl⟩
    | succ i => simp at hi
  have h' := ext_pack h hy
  refine ⟨fun b e hb => ?_, h.size, fun c hn hl => h'.keep c (fun ht => hn (htrk c ht)) hl, h.shape, h.env⟩
  cases b with
  | zero => exact ⟨none, rfl, .inl rfl⟩
  | succ b => simp at hb

/-- a frame of which only some values are kept -/
theorem RF.forget {fr' : List AVal} (h : RF A κ w N fr a) {κ' : Kap} {A' : Nat → Prop} (hr : ∀ t, Rep κ' (Avoid A' κ') w (get fr' t) (a.eval (.tmp t))) : RF A' κ' w N fr' a := ⟨h.defers, h.size, hr⟩
end

/-- no scope in it -/
def flatC : Code → Bool
  | .scope _ => false
  | .seq a b => flatC a && flatC b
  | .cond _ a b => flatC a && flatC b
  | .block _ a => flatC a
  | .loop a => flatC a
  | _ => true
def regsC : Code → List (Array Oper)
  | .region _ ops _ => [ops]
  | .seq a b => regsC a ++ regsC b
  | .cond _ a b => regsC a ++ regsC b
  | .block _ a => regsC a
  | .loop a => regsC a
  | _ => []

section
variable {P : Program} {c : Code}
theorem inv_seq {x y : ACode} (hf : flatC c = true) (h : compileCode P c = some (.seq x y)) : ∃ a b, c = .seq a b ∧ compileCode P a = some x ∧ compileCode P b = some y ∧ flatC a = true ∧ flatC b = true := by
  cases c with
  | seq a b =>
    simp only [compileCode] at h
    split at h
    · rename_i h1 h2
      cases h
      simp only [flatC, Bool.and_eq_true] at hf
      exact ⟨a, b, rfl, h1, h2, hf⟩
    · cases h
  | scope a => cases hf
  | region id ops d => cases d <;> simp [compileCode] at h
  | cond k a b => simp only [compileCode] at h; split at h <;> cases h
  | _ => simp [compileCode] at h
theorem inv_cond {k : AOpd} {x y : ACode} (hf : flatC c = true) (h : compileCode P c = some (.cond k x y)) : ∃ o a b, c = .cond o a b ∧ opdA o = some k ∧ compileCode P a = some x ∧ compileCode P b = some y ∧ flatC a = true ∧ flatC b = true := by
  cases c with
  | cond o a b =>
    simp only [compileCode] at h
    split at h
    · rename_i h1 h2 h3
      cases h
      simp only [flatC, Bool.and_eq_true] at hf
      exact ⟨o, a, b, rfl, h1, h2, h3, hf⟩
    · cases h
  | scope a => cases hf
  | region id ops d => cases d <;> simp [compileCode] at h
  | seq a b => simp only [compileCode] at h; split at h <;> cases h
  | _ => simp [compileCode] at h
theorem inv_ops {is : List AInstr} (hf : flatC c = true) (h : compileCode P c = some (.ops is)) : ∃ id ops, c = .region id ops false ∧ compileSeq P ops ops.toList = some is := by
  cases c with
  | region id ops d =>
    cases d with
    | true => simp [compileCode] at h
    | false =>
      simp only [compileCode, Option.map_eq_some_iff] at h
      obtain ⟨l, h1, h2⟩ := h
      cases h2
      exact ⟨id, ops, rfl, h1⟩
  | scope a => cases hf
  | seq a b => simp only [compileCode] at h; split at h <;> cases h
  | cond k a b => simp only [compileCode] at h; split at h <;> cases h
  | _ => simp [compileCode] at h
end
end Go.Eng

/- slices.Insert, at rows of two cells. -/
namespace Go.Eng
open Go

def insF (ov rot : Nat) : AFunc := ⟨3, 95, [.tmp 6],
  ACode.seq (ACode.ops [⟨(some 6), (.move (.c .nils)), none, []⟩])
  (ACode.seq (ACode.ops [⟨(some 10), (.move (.t 0)), none, []⟩,
      ⟨(some 11), (.move (.t 1)), none, []⟩,
      ⟨(some 12), (.slice 2 (.t 10) (some (.t 11)) none none), none, []⟩])
   (ACode.seq (ACode.ops [⟨(some 13), (.move (.t 2)), none, []⟩,
       ⟨(some 14), (.len false (.t 13)), none, []⟩,
       ⟨(some 7), (.move (.t 14)), none, []⟩])
    (ACode.seq (ACode.seq (ACode.ops [⟨(some 15), (.move (.t 7)), none, []⟩,
         ⟨(some 16), (.bin .eql (.t 15) (.c (.int .i64 0))), none, []⟩])
      (ACode.cond (.t 16) (ACode.seq (ACode.ops [⟨(some 17), (.move (.t 0)), none, []⟩,
           ⟨(some 6), (.move (.t 17)), none, []⟩])
        (ACode.ret))
       (ACode.skip)))
     (ACode.seq (ACode.ops [⟨(some 18), (.move (.t 0)), none, []⟩,
         ⟨(some 19), (.len false (.t 18)), none, []⟩,
         ⟨(some 8), (.move (.t 19)), none, []⟩])
      (ACode.seq (ACode.seq (ACode.ops [⟨(some 20), (.move (.t 1)), none, []⟩,
           ⟨(some 21), (.move (.t 8)), none, []⟩,
           ⟨(some 22), (.bin .eql (.t 20) (.t 21)), none, []⟩])
        (ACode.cond (.t 22) (ACode.seq (ACode.ops [⟨(some 23), (.move (.t 0)), none, []⟩,
             ⟨(some 24), (.move (.t 2)), none, []⟩,
             ⟨(some 25), (.append 2 24 (.t 23) (.t 24)), none, []⟩,
             ⟨(some 6), (.move (.t 25)), none, []⟩])
          (ACode.ret))
         (ACode.skip)))
       (ACode.seq (ACode.seq (ACode.ops [⟨(some 26), (.move (.t 8)), none, []⟩,
            ⟨(some 27), (.move (.t 7)), none, []⟩,
            ⟨(some 28), (.bin .add (.t 26) (.t 27)), none, []⟩,
            ⟨(some 29), (.move (.t 0)), none, []⟩,
            ⟨(some 30), .bad, none, []⟩,
            ⟨(some 31), (.bin .gtr (.t 28) (.t 30)), none, []⟩])
         (ACode.cond (.t 31) (ACode.seq (ACode.ops [⟨(some 32), (.move (.t 0)), none, []⟩,
              ⟨(some 33), (.move (.t 1)), none, []⟩,
              ⟨(some 34), (.slice 2 (.t 32) none (some (.t 33)) none), none, []⟩,
              ⟨(some 35), (.move (.t 8)), none, []⟩,
              ⟨(some 36), (.move (.t 7)), none, []⟩,
              ⟨(some 37), (.bin .add (.t 35) (.t 36)), none, []⟩,
              ⟨(some 38), (.move (.t 1)), none, []⟩,
              ⟨(some 39), (.bin .sub (.t 37) (.t 38)), none, []⟩,
              ⟨(some 40), .bad, none, []⟩,
              ⟨(some 9), (.move (.t 40)), none, []⟩])
           (ACode.seq (ACode.ops [⟨(some 41), (.move (.t 9)), none, []⟩,
               ⟨(some 42), (.move (.t 1)), none, []⟩,
               ⟨(some 43), (.slice 2 (.t 41) (some (.t 42)) none none), none, []⟩,
               ⟨(some 44), (.move (.t 2)), none, []⟩,
               ⟨(some 45), (.copy 2 (.t 43) (.t 44)), none, []⟩])
            (ACode.seq (ACode.draw [⟨(some 46), (.move (.t 9)), none, []⟩,
                ⟨(some 47), (.move (.t 1)), none, [0]⟩,
                ⟨(some 48), (.move (.t 7)), none, [0, 1]⟩,
                ⟨(some 49), (.bin .add (.t 47) (.t 48)), none, [0]⟩,
                ⟨(some 50), (.slice 2 (.t 46) (some (.t 49)) none none), none, []⟩,
                ⟨(some 51), (.move (.t 0)), none, [0, 1, 2, 3, 4]⟩,
                ⟨(some 52), (.move (.t 1)), none, [0, 1, 2, 3, 4, 5]⟩,
                ⟨(some 53), (.slice 2 (.t 51) (some (.t 52)) none none), none, [0, 1, 2, 3, 4]⟩,
                ⟨(some 54), (.copy 2 (.t 50) (.t 53)), none, []⟩])
             (ACode.seq (ACode.ops [⟨(some 55), (.move (.t 9)), none, []⟩,
                 ⟨(some 6), (.move (.t 55)), none, []⟩])
              (ACode.ret)))))
          (ACode.skip)))
        (ACode.seq (ACode.ops [⟨(some 56), (.move (.t 0)), none, []⟩,
            ⟨(some 57), (.move (.t 8)), none, []⟩,
            ⟨(some 58), (.move (.t 7)), none, []⟩,
            ⟨(some 59), (.bin .add (.t 57) (.t 58)), none, []⟩,
            ⟨(some 60), (.slice 2 (.t 56) none (some (.t 59)) none), none, []⟩,
            ⟨(some 0), (.move (.t 60)), none, []⟩])
         (ACode.seq (ACode.seq (ACode.ops [⟨(some 61), (.move (.t 2)), none, []⟩,
              ⟨(some 62), (.move (.t 0)), none, []⟩,
              ⟨(some 63), (.move (.t 1)), none, []⟩,
              ⟨(some 64), (.move (.t 7)), none, []⟩,
              ⟨(some 65), (.bin .add (.t 63) (.t 64)), none, []⟩,
              ⟨(some 66), (.slice 2 (.t 62) (some (.t 65)) none none), none, []⟩,
              ⟨(some 67), (.call (.c (.fn (.func ov) [] [])) [(.t 61), (.t 66)]), none, []⟩,
              ⟨(some 68), (.un .not (.t 67)), none, []⟩])
           (ACode.cond (.t 68) (ACode.seq (ACode.draw [⟨(some 69), (.move (.t 0)), none, []⟩,
                ⟨(some 70), (.move (.t 1)), none, [0]⟩,
                ⟨(some 71), (.move (.t 7)), none, [0, 1]⟩,
                ⟨(some 72), (.bin .add (.t 70) (.t 71)), none, [0]⟩,
                ⟨(some 73), (.slice 2 (.t 69) (some (.t 72)) none none), none, []⟩,
                ⟨(some 74), (.move (.t 0)), none, [0, 1, 2, 3, 4]⟩,
                ⟨(some 75), (.move (.t 1)), none, [0, 1, 2, 3, 4, 5]⟩,
                ⟨(some 76), (.slice 2 (.t 74) (some (.t 75)) none none), none, [0, 1, 2, 3, 4]⟩,
                ⟨(some 77), (.copy 2 (.t 73) (.t 76)), none, []⟩])
             (ACode.seq (ACode.ops [⟨(some 78), (.move (.t 0)), none, []⟩,
                 ⟨(some 79), (.move (.t 1)), none, []⟩,
                 ⟨(some 80), (.slice 2 (.t 78) (some (.t 79)) none none), none, []⟩,
                 ⟨(some 81), (.move (.t 2)), none, []⟩,
                 ⟨(some 82), (.copy 2 (.t 80) (.t 81)), none, []⟩])
              (ACode.seq (ACode.ops [⟨(some 83), (.move (.t 0)), none, []⟩,
                  ⟨(some 6), (.move (.t 83)), none, []⟩])
               (ACode.ret))))
            (ACode.skip)))
          (ACode.seq (ACode.ops [⟨(some 84), (.move (.t 0)), none, []⟩,
              ⟨(some 85), (.move (.t 8)), none, []⟩,
              ⟨(some 86), (.slice 2 (.t 84) (some (.t 85)) none none), none, []⟩,
              ⟨(some 87), (.move (.t 2)), none, []⟩,
              ⟨(some 88), (.copy 2 (.t 86) (.t 87)), none, []⟩])
           (ACode.seq (ACode.ops [⟨(some 89), (.move (.t 0)), none, []⟩,
               ⟨(some 90), (.move (.t 1)), none, []⟩,
               ⟨(some 91), (.slice 2 (.t 89) (some (.t 90)) none none), none, []⟩,
               ⟨(some 92), (.move (.t 7)), none, []⟩,
               ⟨(some 93), (.call (.c (.fn (.func rot) [] [])) [(.t 91), (.t 92)]), none, []⟩])
            (ACode.seq (ACode.ops [⟨(some 94), (.move (.t 0)), none, []⟩,
                ⟨(some 6), (.move (.t 94)), none, []⟩])
             (ACode.ret))))))))))))⟩

def moveChk (o : Oper) (x d : Nat) : Bool := match o.guard, o.dst, o.op with
  | none, some d', .move (.tmp x') => d' == d && x' == x
  | _, _, _ => false
def capChk (P : Program) (o : Oper) : Bool := match o.guard, o.dst, o.op with
  | none, some 30, .call ⟨.builtin .cap, ⟨[.tmp 29]⟩, ⟨[t]⟩⟩ => match P.underlying t with
    | some (.slice _) => true
    | _ => false
  | _, _, _ => false
def cutChk (P : Program) (o : Oper) : Bool := match o.guard, o.dst, o.op with
  | none, some 34, .slice t (.tmp 32) none (some (.tmp 33)) none => match P.underlying t with
    | some (.slice el) => match sizeA P el with
      | some 2 => true
      | _ => false
    | _ => false
  | _, _, _ => false
def amkChk (P : Program) (o : Oper) : Bool := match o.guard, o.dst, o.op with
  | none, some 40, .call ⟨.builtin .append, ⟨[.tmp 34, .tmp 39]⟩, ⟨[t, t1]⟩⟩ => match P.underlying t, P.underlying t1 with
    | some (.slice el), some (.int .i64) => match elemA P el with
      | some (_, 2, 24) => true
      | _ => false
    | _, _ => false
  | _, _, _ => false
def insChk (P : Program) (f : Nat) : Bool := match P.funcs[f]? with
  | some fn => match fn.body with
    | some b => flatC b && match (regsC b)[8]?, (regsC b)[9]? with
      | some r8, some r9 => match r8[3]?, r8[4]?, r9[0]?, r9[2]?, r9[8]? with
        | some o1, some o2, some o3, some o4, some o5 => moveChk o1 0 29 && capChk P o2 && moveChk o3 0 32 && cutChk P o4 && amkChk P o5
        | _, _, _, _, _ => false
      | _, _ => false
    | none => false
  | none => false

theorem moveChk_spec {o : Oper} {x d : Nat} (h : moveChk o x d = true) : o.guard = none ∧ o.dst = some d ∧ o.op = .move (.tmp x) := by
  unfold moveChk at h
  split at h
  · rename_i h1 h2 h3
    simp only [Bool.and_eq_true, beq_iff_eq] at h
    obtain ⟨rfl, rfl⟩ := h
    exact ⟨h1, h2, h3⟩
  · cases h
theorem capChk_spec {P : Program} {o : Oper} (h : capChk P o = true) : ∃ t el, o.guard = none ∧ o.dst = some 30 ∧ o.op = .call ⟨.builtin .cap, #[.tmp 29], #[t]⟩ ∧ P.underlying t = some (.slice el) := by
  unfold capChk at h
  split at h
  · rename_i h1 h2 h3
    split at h
    · rename_i h4; exact ⟨_, _, h1, h2, h3, h4⟩
    · cases h
  · cases h
theorem cutChk_spec {P : Program} {o : Oper} (h : cutChk P o = true) : ∃ t el, o.guard = none ∧ o.dst = some 34 ∧ o.op = .slice t (.tmp 32) none (some (.tmp 33)) none ∧ P.underlying t = some (.slice el) ∧ sizeA P el = some 2 := by
  unfold cutChk at h
  split at h
  · rename_i h1 h2 h3
    split at h
    · rename_i h4
      split at h
      · rename_i h5; exact ⟨_, _, h1, h2, h3, h4, h5⟩
      · cases h
    · cases h
  · cases h
theorem amkChk_spec {P : Program} {o : Oper} (h : amkChk P o = true) : ∃ t t1 el z, o.guard = none ∧ o.dst = some 40 ∧ o.op = .call ⟨.builtin .append, #[.tmp 34, .tmp 39], #[t, t1]⟩ ∧ P.underlying t = some (.slice el) ∧ P.underlying t1 = some (.int .i64) ∧ elemA P el = some (z, 2, 24) := by
  unfold amkChk at h
  split at h
  · rename_i h1 h2 h3
    split at h
    · rename_i h4 h5
      split at h
      · rename_i h6; exact ⟨_, _, _, _, h1, h2, h3, h4, h5, h6⟩
      · cases h
    · cases h
  · cases h
theorem insChk_spec {P : Program} {f : Nat} (h : insChk P f = true) {fn : Func} {b : Code} (hf : P.funcs[f]? = some fn) (hb : fn.body = some b) :
    flatC b = true ∧ ∃ r8 r9 o1 o2 o3 o4 o5, (regsC b)[8]? = some r8 ∧ (regsC b)[9]? = some r9 ∧ r8[3]? = some o1 ∧ r8[4]? = some o2 ∧ r9[0]? = some o3 ∧ r9[2]? = some o4 ∧ r9[8]? = some o5 ∧
      moveChk o1 0 29 = true ∧ capChk P o2 = true ∧ moveChk o3 0 32 = true ∧ cutChk P o4 = true ∧ amkChk P o5 = true := by
  unfold insChk at h
  rw [hf] at h
  simp only [hb, Bool.and_eq_true] at h
  obtain ⟨h0, h⟩ := h
  split at h
  · rename_i r8 r9 h8 h9
    split at h
    · rename_i o1 o2 o3 o4 o5 g1 g2 g3 g4 g5
      simp only [Bool.and_eq_true] at h
      exact ⟨h0, r8, r9, o1, o2, o3, o4, o5, h8, h9, g1, g2, g3, g4, g5, h.1.1.1.1, h.1.1.1.2, h.1.1.2, h.1.2, h.2⟩
    · cases h
  · cases h

/-- how many regions -/
def regsA : ACode → Nat
  | .ops _ => 1
  | .draw _ => 1
  | .seq a b => regsA a + regsA b
  | .cond _ a b => regsA a + regsA b
  | .block _ a => regsA a
  | .loop a => regsA a
  | _ => 0
theorem regs_len {P : Program} : ∀ (c : Code) (ac : ACode), flatC c = true → compileCode P c = some ac → (regsC c).length = regsA ac
  | .skip, ac, _, h => by simp [compileCode] at h; subst h; rfl
  | .label _, ac, _, h => by simp [compileCode] at h; subst h; rfl
  | .rangeFunc .., ac, _, h => by simp [compileCode] at h; subst h; rfl
  | .goto _, ac, _, h => by simp [compileCode] at h; subst h; rfl
  | .refuse _, ac, _, h => by simp [compileCode] at h; subst h; rfl
  | .exit _, ac, _, h => by simp [compileCode] at h; subst h; rfl
  | .ret, ac, _, h => by simp [compileCode] at h; subst h; rfl
  | .scope _, ac, hf, _ => by cases hf
  | .region _ ops false, ac, _, h => by
    simp only [compileCode, Option.map_eq_some_iff] at h
    obtain ⟨l, _, rfl⟩ := h; rfl
  | .region _ ops true, ac, _, h => by
    simp only [compileCode, Option.map_eq_some_iff] at h
    obtain ⟨l, _, rfl⟩ := h; rfl
  | .seq a b, ac, hf, h => by
    simp only [flatC, Bool.and_eq_true] at hf
    simp only [compileCode] at h
    split at h
    · rename_i h1 h2; cases h
      simp only [regsC, regsA, List.length_append, regs_len a _ hf.1 h1, regs_len b _ hf.2 h2]
    · cases h
  | .cond k a b, ac, hf, h => by
    simp only [flatC, Bool.and_eq_true] at hf
    simp only [compileCode] at h
    split at h
    · rename_i h0 h1 h2; cases h
      simp only [regsC, regsA, List.length_append, regs_len a _ hf.1 h1, regs_len b _ hf.2 h2]
    · cases h
  | .block _ a, ac, hf, h => by
    simp only [compileCode, Option.map_eq_some_iff] at h
    obtain ⟨l, h1, rfl⟩ := h
    simp only [regsC, regsA, regs_len a _ hf h1]
  | .loop a, ac, hf, h => by
    simp only [compileCode, Option.map_eq_some_iff] at h
    obtain ⟨l, h1, rfl⟩ := h
    simp only [regsC, regsA, regs_len a _ hf h1]

section
variable {P : Program} {AP : AProg} {A : Nat → Prop} {κ : Kap} {S S' : Store} {w : World} {N : Nat} {fr : List AVal} {a : Act}
theorem eval_put_ne {d t : Nat} {u : Value} (h : t ≠ d) : (a.put (some d) u).eval (.tmp t) = a.eval (.tmp t) := by
  simp only [Act.put, Act.eval, Array.getD_eq_getD_getElem?]
  rw [Array.getElem?_setIfInBounds_ne (fun e => h e.symm)]
theorem eval_put_eq {d : Nat} {u : Value} (h : d < a.tmps.size) : (a.put (some d) u).eval (.tmp d) = u := by
  simp only [Act.put, Act.eval, Array.getD_eq_getD_getElem?]
  rw [Array.getElem?_setIfInBounds_self_of_lt h]; rfl

/-- one operation, by the machine; the act is told -/
theorem ops_sem (hA : AOk P AP) {ops : Array Oper} (is1 : List AInstr) (i : AInstr) (is2 : List AInstr) (hc : compileSeq P ops ops.toList = some (is1 ++ i :: is2)) (hg : i.guard = none) (hd : (i.dst.all fun d => d < N) = true) (hna : allocs i.op = false) {m : FM} {v : AVal} {fp : FP}
    (h : OpR AP m 0 S i.op v S' fp) (hfr : Fr fr m) (hS : RS A κ S w) (hF : RF A κ w N fr a) {Q : Exit → Act → World → Prop}
    (hk : ∀ u w' κ', Ext κ w κ' w' → RS A κ' S' w' → Rep κ' (Avoid A κ') w' v u → Fr (putO fr i.dst v) (putM m i.dst v) → RF A κ' w' N (putO fr i.dst v) (a.put i.dst u) → wpOps P ops Q (List.range' (is1.length + 1) is2.length) (a.put i.dst u) w') :
    wpOps P ops Q (List.range' is1.length (is2.length + 1)) a w := by
  obtain ⟨l1, l2, hl, e1, e2, e3⟩ := compSeq_split is1 (i :: is2) ops.toList hc
  cases l2 with
  | nil => simp [compileSeq] at e2
  | cons o l2 =>
    simp only [compileSeq] at e2
    split at e2
    · rename_i j js g1 g2
      simp only [Option.some.injEq, List.cons.injEq] at e2
      obtain ⟨rfl, rfl⟩ := e2
      have ho : ops[is1.length]? = some o := by
        have : ops.toList[is1.length]? = some o := by rw [hl, ← e3]; simp
        simpa using this
      obtain ⟨hd', hop, -, hgd⟩ := instr_spec g1
      have hog : o.guard = none := by
        cases hoo : o.guard with
        | none => rfl
        | some jw => rw [hoo] at hgd; obtain ⟨t, _, ht⟩ := hgd; rw [hg] at ht; cases ht
      refine ops_hand ho hog ?_
      obtain ⟨e, ⟨n, hn⟩, rfl, hS', -⟩ := h fr hfr
      have hr := hn n (Nat.le_refl _)
      rw [hop] at hr hna
      cases hco : compileOp P o.op with
      | none => rw [hco] at hr; simp [semX, sem] at hr; exact (run_fail hr).elim
      | some ao =>
        rw [hco] at hr hna
        refine semX_wp hA (exec_sim hA n).1 hco hS hF (fun hh => by simp only [Option.getD_some] at hna; rw [hna] at hh; cases hh) hr ?_
        intro u w' κ' k1 k2 k3 _
        rw [hS'] at k2
        have := hk u w' κ' k1 k2 k3 (hfr.putO _ _) ((hF.mono k1).put hd k3)
        rw [← hd']
        exact this
    · cases e2
end
end Go.Eng

/- slices.Insert: what it does. -/
namespace Go.Eng
open Go
attribute [local irreducible] OpR TL TD TC

section
variable {P : Program} {AP : AProg} (hA : AOk P AP)

theorem rep_pack {κ : Kap} {T T' : Nat → Prop} {w : World} {j off len : Nat} {full : Bool} {y : KB} {v : Value} (h : Rep κ T w (.view j off len full) v) (hy : κ[j]? = some (some (some y))) : Rep [some none, some (some y)] T' w (.view 1 off len full) v := by
  obtain ⟨e, cb, o, cap, h1, h2, h3⟩ := h
  rw [hy] at h1; cases h1
  exact ⟨some y, cb, o, cap, rfl, h2, h3⟩

theorem wp_comp_skip {P : Program} {c : Code} (hf : flatC c = true) (h : compileCode P c = some .skip) {Q : Exit → Act → World → Prop} {a : Act} {w : World} (hq : Q .normal a w) : c.wp P Q a w := by
  cases c with
  | skip => exact wp_skip hq
  | label l => exact wp_label hq
  | scope a => cases hf
  | region id ops d => cases d <;> simp [compileCode] at h
  | cond k a b => simp only [compileCode] at h; split at h <;> cases h
  | seq a b => simp only [compileCode] at h; split at h <;> cases h
  | _ => simp [compileCode] at h
theorem o_prim {AP : AProg} {m : FM} {slot : Nat} {S : Store} {args : List AOpd} {f : Nat} {as : List AVal} {v : AVal} {p : Prim} {rds : List Nat} (ha : los m args = some as) (hp : AP.prim f = some p) (h : (p slot as).run S = some (⟨v, none, []⟩, rds)) :
    OpR AP m slot S (.call (.c (.fn (.func f) [] [])) args) v S (rds, []) := by
  unfold OpR
  exact fun fr hfr => ⟨⟨v, none, []⟩, ⟨0, fun n _ => by simp only [semX, opd, hfr.opds ha, semCall, hp, List.nil_append, List.append_nil, h]⟩, rfl, rfl, rfl⟩

theorem tl_prim {AP : AProg} {m : FM} {S : Store} {N : Nat} {d : Option Nat} {args : List AOpd} {f : Nat} {p : Prim} {g : Option (Nat × Bool)} {un : List Nat} {l : List AInstr} {S' : Store} {v : AVal} {fp : FP} {K : FM → Store → Prop}
    (h : OpR AP m S.length (S ++ [none]) (.call (.c (.fn (.func f) [] [])) args) v S' fp) (hp : AP.prim f = some p) (hd : (d.all fun d => d < N) = true) (hg : gd m g = some true)
    (hk : TL AP N l (putM m d v) S' K) : TL AP N (⟨d, .call (.c (.fn (.func f) [] [])) args, g, un⟩ :: l) m S K := by
  unfold TL
  intro fr hfr
  have hg' := hfr.gd hg
  unfold TL at hk
  obtain ⟨fr', m', S'', k1, k2, k3⟩ := hk _ (hfr.putO d v)
  refine ⟨fr', m', S'', k1, k2, ?_⟩
  unfold OpR at h
  obtain ⟨e, h1, rfl, rfl, h4⟩ := h fr hfr
  refine h1.bind k3 fun n hn hm => ?_
  have hsh : shares AP ⟨fr, S⟩ (.call (.c (.fn (.func f) [] [])) args) = none := by
    simp only [shares, fvOf, opd, hp]
  simp only [stepL, step1, hg', hsh, allocs, if_true, dstep, hd, hn, hm]

theorem ov_run {S : Store} {slot b off len : Nat} {full : Bool} {r : List AVal} {rs R : List (List AVal)} (hb : S[b]? = some (some ⟨2, R⟩)) (h1 : 0 < R.length) (h2 : 0 < len) (h3 : off + len ≤ R.length) (h4 : r.length = 2) :
    (ovPrim 2 slot [.imm (r :: rs), .view b off len full]).run S = some (⟨.bool false, none, []⟩, [b]) := by
  simp only [ovPrim, RM.run, hb]
  rw [if_pos ⟨by trivial, by decide, by decide, h1, h2, h3, h4⟩]
  rfl

abbrev J32 : AInstr := ⟨(some 32), (.move (.t 0)), none, []⟩
abbrev J33 : AInstr := ⟨(some 33), (.move (.t 1)), none, []⟩
abbrev J34 : AInstr := ⟨(some 34), (.slice 2 (.t 32) none (some (.t 33)) none), none, []⟩
abbrev J35 : AInstr := ⟨(some 35), (.move (.t 8)), none, []⟩
abbrev J36 : AInstr := ⟨(some 36), (.move (.t 7)), none, []⟩
abbrev J37 : AInstr := ⟨(some 37), (.bin .add (.t 35) (.t 36)), none, []⟩
abbrev J38 : AInstr := ⟨(some 38), (.move (.t 1)), none, []⟩
abbrev J39 : AInstr := ⟨(some 39), (.bin .sub (.t 37) (.t 38)), none, []⟩
abbrev J40 : AInstr := ⟨(some 40), .bad, none, []⟩
abbrev J41 : AInstr := ⟨(some 9), (.move (.t 40)), none, []⟩

def insM (n : Nat) (i : Nat) (vr : List (List AVal)) : FM := [(0, .view 0 0 n false), (1, .int .i64 i), (2, .imm vr)]

include hA in
theorem insert_does {f ov rot : Nat} (haf : compileAt P f = some (insF ov rot)) (hp : AP.prim ov = some (ovPrim 2)) (hchk : insChk P f = true) {rows vr : List (List AVal)} {i : Nat} (hi : i ≤ rows.length) (hvr : vr ≠ [])
    (hv2 : ∀ r ∈ vr, r.length = 2) (hst : (vr.all fun r => r.all storable) = true) (hst2 : (rows.all fun r => r.all storable) = true) (hnr : norefLL rows = true) (hnv : norefLL vr = true) (hb : (rows.length + vr.length) * 24 ≤ 17592186044416) :
    KeepDoes P f [.view 0 0 rows.length false, .int .i64 i, .imm vr] [some ⟨2, rows⟩] (.view 1 0 (rows.length + vr.length) false) [none, some ⟨2, rows.take i ++ vr ++ rows.drop i⟩] := by
  intro A κ w vs hS hv
  obtain ⟨x, hx, hok⟩ := hS.live 0 _ rfl
  have hκ : κ = [some (some x)] := by
    have hl := hS.len
    match κ, hl, hx with
    | [y], _, hx => simp at hx; rw [hx]
  subst hκ
  have hm0 : 0 < vr.length := List.length_pos_iff.2 hvr
  have hrl : rowsOf 2 (.imm vr) = .ok vr := by
    cases vr with
    | nil => exact absurd rfl hvr
    | cons r rs => simp [rowsOf, rowOk, hv2 r (by simp)]
  have hnres : norefLL (rows.take i ++ vr ++ rows.drop i) = true := by
    have h1 : ∀ (xs : List (List AVal)), norefLL xs = true ↔ ∀ r ∈ xs, norefL r = true := by
      intro xs; induction xs with
      | nil => simp [norefLL]
      | cons a xs ih => simp [norefLL, ih]
    rw [h1] at hnr hnv ⊢
    intro r hr
    rcases List.mem_append.1 hr with hr | hr
    · rcases List.mem_append.1 hr with hr | hr
      · exact hnr r (List.mem_of_mem_take hr)
      · exact hnv r hr
    · exact hnr r (List.mem_of_mem_drop hr)
  refine does_of_wp haf hS hv rfl ?_
  intro fn b a hfn hfb hc hF
  obtain ⟨hfl, r8, r9, o1, o2, o3, o4, o5, hr8, hr9, ho1, ho2, ho3, ho4, ho5, hk1, hk2, hk3, hk4, hk5⟩ := insChk_spec hchk hfn hfb
  have hN : max (insF ov rot).nargs (insF ov rot).N = 95 := rfl
  rw [hN] at hF ⊢
  -- how it ends
  have hfin : ∀ (e : Exit) (fr' : List AVal) (a' : Act) (κ' : Kap) (S' : Store) (w' : World) (j : Nat), (e = .normal ∨ e = .ret) → RS A κ' S' w' → RF A κ' w' 95 fr' a' → S'[j]? = some (some ⟨2, rows.take i ++ vr ++ rows.drop i⟩) →
      get fr' 6 = .view j 0 (rows.length + vr.length) false → (∀ y, κ'[j]? = some (some (some y)) → Ext [some (some x)] w [some none, some (some y)] w') →
      (e = .normal ∨ e = .ret) ∧ ∃ fr' S' κ' us, RS A κ' S' w' ∧ RF A κ' w' 95 fr' a' ∧ aresL ⟨fr', S'⟩ (insF ov rot).res = some us ∧ ∀ v, Rep κ' (Avoid A κ') w' (one us) v →
        ∃ κ', Ext [some (some x)] w κ' w' ∧ RS A κ' [none, some ⟨2, rows.take i ++ vr ++ rows.drop i⟩] w' ∧ Rep κ' (Avoid A κ') w' (.view 1 0 (rows.length + vr.length) false) v := by
    intro e fr' a' κ' S' w' j he hS' hF' hj h6 hE
    obtain ⟨y, hy, -⟩ := hS'.live j _ hj
    refine ⟨he, fr', S', κ', [.view j 0 (rows.length + vr.length) false], hS', hF', by simp [insF, aresL, ares, h6], fun v hr => ?_⟩
    exact ⟨[some none, some (some y)], hE y hy, rs_pack hS' hj hy hnres, rep_pack hr hy⟩
  have hfr0 : Fr [.view 0 0 rows.length false, .int .i64 i, .imm vr] (insM rows.length i vr) := fr_init _
  -- X0
  obtain ⟨c0, d0, rfl, hc0, hd0, hf0, hg0⟩ := inv_seq hfl hc
  refine wp_seq (wp_of_tc hA hc0 (N := 95) (m := insM rows.length i vr) (S := [some ⟨2, rows⟩]) (Qt := fun ex m S => ex = .normal ∧ Wk m (insM rows.length i vr) ∧ S = [some ⟨2, rows⟩]) ?_ hfr0 hS hF ?_)
  · refine tc_ops ?_
    refine tl_opo (o_move rfl) rfl rfl rfl rfl ?_; refine tl_nil ?_
    exact ⟨rfl, by unfold insM; (repeat' (first | exact wk_nil | refine wk_cons rfl ?_)), rfl⟩
  rintro ex fr1 m1 S1 κ1 a1 w1 hfr1 ⟨rfl, hwk1, rfl⟩ hE1 hS1 hF1
  replace hfr1 := hfr1.wk hwk1
  clear hwk1 m1
  show d0.wp P _ a1 w1
  -- X1
  obtain ⟨c1, d1, rfl, hc1, hd1, hf1, hg1⟩ := inv_seq hg0 hd0
  refine wp_seq (wp_of_tc hA hc1 (N := 95) (m := insM rows.length i vr) (S := [some ⟨2, rows⟩]) (Qt := fun ex m S => ex = .normal ∧ Wk m (insM rows.length i vr) ∧ S = [some ⟨2, rows⟩]) ?_ hfr1 hS1 hF1 ?_)
  · refine tc_ops ?_
    refine tl_opo (o_move rfl) rfl rfl rfl rfl ?_; refine tl_opo (o_move rfl) rfl rfl rfl rfl ?_
    refine tl_opo (o_slice_view (lo' := i) (hi' := rows.length) rfl rfl (Nat.le_refl _) (loIs_some rfl) loIs_none hi (Nat.le_refl _)) rfl rfl rfl rfl ?_
    refine tl_nil ?_
    exact ⟨rfl, by unfold insM; (repeat' (first | exact wk_nil | refine wk_cons rfl ?_)), rfl⟩
  rintro ex fr2 m2 S2 κ2 a2 w2 hfr2 ⟨rfl, hwk2, rfl⟩ hE2 hS2 hF2
  replace hfr2 := hfr2.wk hwk2
  clear hwk2 m2
  show d1.wp P _ a2 w2
  -- X2
  obtain ⟨c2, d2, rfl, hc2, hd2, hf2, hg2⟩ := inv_seq hg1 hd1
  refine wp_seq (wp_of_tc hA hc2 (N := 95) (m := insM rows.length i vr) (S := [some ⟨2, rows⟩]) (Qt := fun ex m S => ex = .normal ∧ Wk m ((7, .int .i64 vr.length) :: insM rows.length i vr) ∧ S = [some ⟨2, rows⟩]) ?_ hfr2 hS2 hF2 ?_)
  · refine tc_ops ?_
    refine tl_opo (o_move rfl) rfl rfl rfl rfl ?_; refine tl_opo (o_len_imm rfl) rfl rfl rfl rfl ?_; refine tl_opo (o_move rfl) rfl rfl rfl rfl ?_; refine tl_nil ?_
    exact ⟨rfl, by unfold insM; (repeat' (first | exact wk_nil | refine wk_cons rfl ?_)), rfl⟩
  rintro ex fr3 m3 S3 κ3 a3 w3 hfr3 ⟨rfl, hwk3, rfl⟩ hE3 hS3 hF3
  replace hfr3 := hfr3.wk hwk3
  clear hwk3 m3
  show d2.wp P _ a3 w3
  -- X3
  obtain ⟨c3, d3, rfl, hc3, hd3, hf3, hg3⟩ := inv_seq hg2 hd2
  refine wp_seq (wp_of_tc hA hc3 (N := 95) (m := (7, .int .i64 vr.length) :: insM rows.length i vr) (S := [some ⟨2, rows⟩]) (Qt := fun ex m S => ex = .normal ∧ Wk m ((7, .int .i64 vr.length) :: insM rows.length i vr) ∧ S = [some ⟨2, rows⟩]) ?_ hfr3 hS3 hF3 ?_)
  · refine tc_seq (tc_ops ?_)
    refine tl_opo (o_move rfl) rfl rfl rfl rfl ?_
    refine tl_opo (o_eql' rfl rfl (t := false) (by simp [hvr])) rfl rfl rfl rfl ?_
    refine tl_nil ?_
    refine tc_cond rfl (fun h => nomatch h) (fun _ => tc_skip ?_)
    exact ⟨rfl, by unfold insM; (repeat' (first | exact wk_nil | refine wk_cons rfl ?_)), rfl⟩
  rintro ex fr4 m4 S4 κ4 a4 w4 hfr4 ⟨rfl, hwk4, rfl⟩ hE4 hS4 hF4
  replace hfr4 := hfr4.wk hwk4
  clear hwk4 m4
  show d3.wp P _ a4 w4
  -- X4
  obtain ⟨c4, d4, rfl, hc4, hd4, hf4, hg4⟩ := inv_seq hg3 hd3
  refine wp_seq (wp_of_tc hA hc4 (N := 95) (m := (7, .int .i64 vr.length) :: insM rows.length i vr) (S := [some ⟨2, rows⟩]) (Qt := fun ex m S => ex = .normal ∧ Wk m ((8, .int .i64 rows.length) :: (7, .int .i64 vr.length) :: insM rows.length i vr) ∧ S = [some ⟨2, rows⟩]) ?_ hfr4 hS4 hF4 ?_)
  · refine tc_ops ?_
    refine tl_opo (o_move rfl) rfl rfl rfl rfl ?_; refine tl_opo (o_len_view rfl) rfl rfl rfl rfl ?_; refine tl_opo (o_move rfl) rfl rfl rfl rfl ?_; refine tl_nil ?_
    exact ⟨rfl, by unfold insM; (repeat' (first | exact wk_nil | refine wk_cons rfl ?_)), rfl⟩
  rintro ex fr5 m5 S5 κ5 a5 w5 hfr5 ⟨rfl, hwk5, rfl⟩ hE5 hS5 hF5
  replace hfr5 := hfr5.wk hwk5
  clear hwk5 m5
  show d4.wp P _ a5 w5
  -- X5
  obtain ⟨c5, d5, rfl, hc5, hd5, hf5, hg5⟩ := inv_seq hg4 hd4
  have hE15 := (((hE1.trans hE2).trans hE3).trans hE4).trans hE5
  by_cases hin : i = rows.length
  · -- at the end
    refine wp_seq (wp_of_tc hA hc5 (N := 95) (m := (8, .int .i64 rows.length) :: (7, .int .i64 vr.length) :: insM rows.length i vr) (S := [some ⟨2, rows⟩]) (Qt := fun ex m S => ex = .ret ∧ Wk m [(6, .view 1 0 (rows.length + vr.length) false)] ∧ S = [none, some ⟨2, rows ++ vr⟩]) ?_ hfr5 hS5 hF5 ?_)
    · refine tc_seq (tc_ops ?_)
      refine tl_opo (o_move rfl) rfl rfl rfl rfl ?_; refine tl_opo (o_move rfl) rfl rfl rfl rfl ?_
      refine tl_opo (o_eql' rfl rfl (t := true) (by simp [hin])) rfl rfl rfl rfl ?_
      refine tl_nil ?_
      refine tc_cond rfl (fun _ => ?_) (fun h => nomatch h)
      refine tc_seq (tc_ops ?_)
      refine tl_opo (o_move rfl) rfl rfl rfl rfl ?_; refine tl_opo (o_move rfl) rfl rfl rfl rfl ?_
      refine tl_opn (o_append_view rfl rfl hrl hvr rfl rfl hb hst) rfl rfl rfl rfl ?_
      refine tl_opo (o_move rfl) rfl rfl rfl rfl ?_; refine tl_nil ?_
      exact tc_ret ⟨rfl, by (repeat' (first | exact wk_nil | refine wk_cons rfl ?_)), rfl⟩
    rintro ex fr6 m6 S6 κ6 a6 w6 hfr6 ⟨rfl, hwk6, rfl⟩ hE6 hS6 hF6
    replace hfr6 := hfr6.wk hwk6
    have he : rows.take i ++ vr ++ rows.drop i = rows ++ vr := by rw [hin]; simp
    exact hfin .ret fr6 a6 κ6 _ w6 1 (.inr rfl) hS6 hF6 (by rw [he]; rfl) (hfr6 6 _ rfl) (fun y hy => ext_pack (hE15.trans hE6) hy)
  have hlt : i < rows.length := by omega
  refine wp_seq (wp_of_tc hA hc5 (N := 95) (m := (8, .int .i64 rows.length) :: (7, .int .i64 vr.length) :: insM rows.length i vr) (S := [some ⟨2, rows⟩]) (Qt := fun ex m S => ex = .normal ∧ Wk m ((8, .int .i64 rows.length) :: (7, .int .i64 vr.length) :: insM rows.length i vr) ∧ S = [some ⟨2, rows⟩]) ?_ hfr5 hS5 hF5 ?_)
  · refine tc_seq (tc_ops ?_)
    refine tl_opo (o_move rfl) rfl rfl rfl rfl ?_; refine tl_opo (o_move rfl) rfl rfl rfl rfl ?_
    refine tl_opo (o_eql' rfl rfl (t := false) (by simp; omega)) rfl rfl rfl rfl ?_
    refine tl_nil ?_
    refine tc_cond rfl (fun h => nomatch h) (fun _ => tc_skip ?_)
    exact ⟨rfl, by unfold insM; (repeat' (first | exact wk_nil | refine wk_cons rfl ?_)), rfl⟩
  rintro ex fr6 m6 S6 κ6 a6 w6 hfr6 ⟨rfl, hwk6, rfl⟩ hE6 hS6 hF6
  replace hfr6 := hfr6.wk hwk6
  clear hwk6 m6
  show d5.wp P _ a6 w6
  have hE16 := hE15.trans hE6
  clear hE15 hE1 hE2 hE3 hE4 hE5 hE6 hS1 hS2 hS3 hS4 hS5 hF1 hF2 hF3 hF4 hF5 hfr1 hfr2 hfr3 hfr4 hfr5
  -- the two regions that are looked into
  obtain ⟨d6, d7, rfl, hd6, hd7, hf6, hf7⟩ := inv_seq hg5 hd5
  obtain ⟨e0, e1, rfl, he0, he1, hfe0, hfe1⟩ := inv_seq hf6 hd6
  obtain ⟨id8, ops8, rfl, hops8⟩ := inv_ops hfe0 he0
  obtain ⟨k8, b1, b2, rfl, hk8, hb1, hb2, hfb1, hfb2⟩ := inv_cond hfe1 he1
  obtain ⟨q0, q1, rfl, hq0, hq1, hfq0, hfq1⟩ := inv_seq hfb1 hb1
  obtain ⟨id9, ops9, rfl, hops9⟩ := inv_ops hfq0 hq0
  have hl0 := regs_len _ _ hf0 hc0
  have hl1 := regs_len _ _ hf1 hc1
  have hl2 := regs_len _ _ hf2 hc2
  have hl3 := regs_len _ _ hf3 hc3
  have hl4 := regs_len _ _ hf4 hc4
  have hl5 := regs_len _ _ hf5 hc5
  simp only [regsA, Nat.add_zero, Nat.zero_add] at hl0 hl1 hl2 hl3 hl4 hl5
  have h8 : ops8 = r8 := by
    simp only [regsC, List.cons_append, List.nil_append] at hr8
    rw [List.getElem?_append_right (by omega), List.getElem?_append_right (by omega), List.getElem?_append_right (by omega), List.getElem?_append_right (by omega), List.getElem?_append_right (by omega), List.getElem?_append_right (by omega)] at hr8
    rw [hl0, hl1, hl2, hl3, hl4, hl5] at hr8
    simpa using hr8
  have h9 : ops9 = r9 := by
    simp only [regsC, List.cons_append, List.nil_append] at hr9
    rw [List.getElem?_append_right (by omega), List.getElem?_append_right (by omega), List.getElem?_append_right (by omega), List.getElem?_append_right (by omega), List.getElem?_append_right (by omega), List.getElem?_append_right (by omega)] at hr9
    rw [hl0, hl1, hl2, hl3, hl4, hl5] at hr9
    simpa using hr9
  subst h8 h9
  clear hl0 hl1 hl2 hl3 hl4 hl5 hr8 hr9 hc0 hc1 hc2 hc3 hc4 hc5
  obtain ⟨g1a, g1b, g1c⟩ := moveChk_spec hk1
  obtain ⟨t2, el2, g2a, g2b, g2c, g2d⟩ := capChk_spec hk2
  obtain ⟨g3a, g3b, g3c⟩ := moveChk_spec hk3
  obtain ⟨t4, el4, g4a, g4b, g4c, g4d, g4e⟩ := cutChk_spec hk4
  obtain ⟨t5, t5', el5, z5, g5a, g5b, g5c, g5d, g5e, g5f⟩ := amkChk_spec hk5
  refine wp_seq (wp_seq (region_pre hA (N := 95) (m := (8, .int .i64 rows.length) :: (7, .int .i64 vr.length) :: insM rows.length i vr) (S := [some ⟨2, rows⟩]) [⟨(some 26), (.move (.t 8)), none, []⟩, ⟨(some 27), (.move (.t 7)), none, []⟩, ⟨(some 28), (.bin .add (.t 26) (.t 27)), none, []⟩]
    [⟨(some 29), (.move (.t 0)), none, []⟩, ⟨(some 30), .bad, none, []⟩, ⟨(some 31), (.bin .gtr (.t 28) (.t 30)), none, []⟩] hops8
    (K1 := fun m S => Wk m ((28, .int .i64 ((rows.length + vr.length : Nat) : Int)) :: (8, .int .i64 rows.length) :: (7, .int .i64 vr.length) :: insM rows.length i vr) ∧ S = [some ⟨2, rows⟩]) ?_ hfr6 hS6 hF6 ?_))
  · refine tl_opo (o_move rfl) rfl rfl rfl rfl ?_; refine tl_opo (o_move rfl) rfl rfl rfl rfl ?_
    refine tl_opo (o_add rfl rfl (c := ((rows.length + vr.length : Nat) : Int)) (by simp) (by omega) (by omega)) rfl rfl rfl rfl ?_
    refine tl_nil ?_
    exact ⟨by unfold insM; (repeat' (first | exact wk_nil | refine wk_cons rfl ?_)), rfl⟩
  rintro fr7 m7 S7 κ7 a7 w7 hfr7 ⟨hwk7, rfl⟩ hE7 hS7 hF7
  replace hfr7 := hfr7.wk hwk7
  clear hwk7 m7
  replace hE7 := hE16.trans hE7
  clear hE16 hS6 hF6 hfr6
  obtain ⟨x7, hx7, -⟩ := hS7.live 0 _ rfl
  have hκ7 : κ7 = [some (some x)] := by
    have hl := hS7.len
    obtain ⟨e', h1, h2⟩ := hE7.kle 0 (some x) rfl
    rw [hx7] at h1; cases h1
    have : x7 = x := by rcases h2 with h2 | h2 <;> simpa using h2
    subst this
    match κ7, hl, hx7 with
    | [y], _, hx => simp at hx; rw [hx]
  subst hκ7
  have hV := hF7.tmp 0
  rw [hfr7 0 (.view 0 0 rows.length false) rfl] at hV
  have hVr := hV
  obtain ⟨ev, cb, of, cap, v1, v2, v3⟩ := hV
  have : ev = some x := by simpa using v1.symm
  subst this
  obtain ⟨p1, p2, p3, p4, elx, nx, p5, p6⟩ := v3 x rfl
  obtain ⟨p4, p7⟩ := p4 (by omega)
  subst p4
  have hxr : x.rn = rows.length := hok.rn
  have hxs : x.sz = 2 := hok.sz
  -- 29, 30
  refine ops_hand ho1 g1a ?_
  unfold Oper.wp
  have hr1 : (execOp a7.eval o1).run P w7 = .ok (.value (a7.eval (.tmp 0))) w7 := by simp [execOp, g1c]
  rw [hr1, Oper.upon_value, g1b]
  refine ops_hand ho2 g2a ?_
  unfold Oper.wp
  have hsz7 := hF7.size
  have e29 : (a7.put (some 29) (a7.eval (.tmp 0))).eval (.tmp 29) = .slice (some ⟨x.cb, of, none⟩) rows.length cap := by rw [eval_put_eq (by omega)]; exact v2
  rw [run_cap g2c g2d e29, Oper.upon_value, g2b]
  have hF8 := (hF7.put (d := some 29) (x := .view 0 0 rows.length false) rfl hVr).put (d := some 30) (x := .int .i64 (cap : Int)) (v := .int .i64 cap) rfl rfl
  have hfr8 := (hfr7.putO (some 29) (.view 0 0 rows.length false)).putO (some 30) (.int .i64 (cap : Int))
  refine ops_sem hA [⟨(some 26), (.move (.t 8)), none, []⟩, ⟨(some 27), (.move (.t 7)), none, []⟩, ⟨(some 28), (.bin .add (.t 26) (.t 27)), none, []⟩, ⟨(some 29), (.move (.t 0)), none, []⟩, ⟨(some 30), .bad, none, []⟩] ⟨(some 31), (.bin .gtr (.t 28) (.t 30)), none, []⟩ [] hops8 rfl rfl rfl
    (o_gtr rfl rfl) hfr8 hS7 hF8 ?_
  intro u31 w8 κ8 hE8 hS8 hu31 hfr9 hF9
  have hu31 : u31 = .bool (decide (((rows.length + vr.length : Nat) : Int) > (cap : Int))) := hu31
  have p5 := hE8.shape _ _ _ p5
  replace hE8 := hE7.trans hE8
  clear hE7
  have hV0 : ((((a7.put (some 29) (a7.eval (.tmp 0))).put (some 30) (.int .i64 cap)).put (some 31) u31)).eval (.tmp 0) = .slice (some ⟨x.cb, of, none⟩) rows.length cap := by
    rw [eval_put_ne (by omega), eval_put_ne (by omega), eval_put_ne (by omega)]; exact v2
  have hE31 : ((((a7.put (some 29) (a7.eval (.tmp 0))).put (some 30) (.int .i64 cap)).put (some 31) u31)).eval (.tmp 31) = u31 := eval_put_eq (by simp [Act.put]; omega)
  have hw9 : Wk (putM (putM (putM ((28, .int .i64 ((rows.length + vr.length : Nat) : Int)) :: (8, .int .i64 rows.length) :: (7, .int .i64 vr.length) :: insM rows.length i vr) (some 29) (.view 0 0 rows.length false)) (some 30) (.int .i64 (cap : Int))) (some 31) (.bool (decide (((rows.length + vr.length : Nat) : Int) > (cap : Int))))) ((8, .int .i64 rows.length) :: (7, .int .i64 vr.length) :: insM rows.length i vr) := by unfold insM; (repeat' (first | exact wk_nil | refine wk_cons rfl ?_))
  replace hfr9 := hfr9.wk hw9
  clear hw9
  clear hF8 hfr8 hF7 hfr7 hS7 e29 hr1 hVr v3 v1
  generalize (((a7.put (some 29) (a7.eval (.tmp 0))).put (some 30) (.int .i64 cap)).put (some 31) u31) = a9 at hV0 hF9 hE31 ⊢
  generalize putO _ (some 31) _ = fr9 at hfr9 hF9
  obtain ⟨x8, hx8, hok8⟩ := hS8.live 0 _ rfl
  have hκ8 : κ8 = [some (some x)] := by
    have hl := hS8.len
    obtain ⟨e', h1, h2⟩ := hE8.kle 0 (some x) rfl
    rw [hx8] at h1; cases h1
    have : x8 = x := by rcases h2 with h2 | h2 <;> simpa using h2
    subst this
    match κ8, hl, hx8 with
    | [y], _, hx => simp at hx; rw [hx]
  subst hκ8
  have hx8 : x8 = x := by simpa using hx8.symm
  subst hx8
  show Code.wp P (.cond k8 (.seq (.region id9 ops9 false) q1) b2) _ a9 w8
  have hke : a9.eval k8 = .bool (decide (((rows.length + vr.length : Nat) : Int) > (cap : Int))) := by
    have : k8 = .tmp 31 := by cases k8 <;> simp [opdA] at hk8 <;> first | (rw [hk8]) | skip
    rw [this, hE31, hu31]
  by_cases hgr : rows.length + vr.length > cap
  · -- a new block
    refine wp_cond_true (by rw [hke]; simp; omega) ?_
    have hsz9 : ops9.size = 10 := by have := compSeq_len _ _ hops9; simpa using this
    refine wp_seq (wp_region ?_)
    rw [List.range_eq_range', hsz9]
    refine ops_hand (k := 0) (n := 9) ho3 g3a ?_
    unfold Oper.wp
    have hr3 : (execOp a9.eval o3).run P w8 = .ok (.value (a9.eval (.tmp 0))) w8 := by simp [execOp, g3c]
    rw [hr3, Oper.upon_value, g3b]
    have hV9 := hF9.tmp 0
    rw [hfr9 0 (.view 0 0 rows.length false) rfl] at hV9
    have hF10 := hF9.put (d := some 32) (x := .view 0 0 rows.length false) rfl hV9
    have hfr10 := hfr9.putO (some 32) (.view 0 0 rows.length false)
    have hs9 := hF9.size
    have e32 : (a9.put (some 32) (a9.eval (.tmp 0))).eval (.tmp 32) = .slice (some ⟨x8.cb, of, none⟩) rows.length cap := by rw [eval_put_eq (by omega)]; exact hV0
    generalize a9.put (some 32) (a9.eval (.tmp 0)) = a10 at hF10 e32 ⊢
    refine ops_sem hA [J32] J33 [J34, J35, J36, J37, J38, J39, J40, J41] hops9 rfl rfl rfl (o_move rfl) hfr10 hS8 hF10 ?_
    intro u33 w11 κ11 hE11 hS11 hu33 hfr11 hF11
    have p5b := hE11.shape _ _ _ p5
    replace hE11 := hE8.trans hE11
    have e32' : (a10.put (some 33) u33).eval (.tmp 32) = .slice (some ⟨x8.cb, of, none⟩) rows.length cap := by rw [eval_put_ne (by omega)]; exact e32
    generalize (a10.put (some 33) u33) = a11 at hF11 e32' ⊢
    refine ops_hand ho4 g4a ?_
    unfold Oper.wp
    have h33 : opd (putO (putO fr9 (some 32) (.view 0 0 rows.length false)) (some 33) (.int .i64 (i : Int))) (.t 33) = .int .i64 (i : Int) := hfr11 33 _ rfl
    have hab : abound (some (opd (putO (putO fr9 (some 32) (.view 0 0 rows.length false)) (some 33) (.int .i64 (i : Int))) (.t 33))) rows.length cap = some i := by
      rw [h33]; simp only [abound]; rw [if_pos (by omega)]; simp
    obtain ⟨hr4, -⟩ := run_slice (P := P) (w := w11) (sz := 2) hF11 g4c (lo' := none) (hi' := some (.t 33)) (mx' := none) rfl rfl rfl (by simp) g4d g4e e32' (top := cap) (m := cap) (h := i) (l := 0) (by omega) (Nat.le_refl _) rfl hab rfl
    have hc0 : ¬ cap = 0 := by omega
    have hadd : (Addr.add ⟨x8.cb, of, none⟩ 0 : Addr) = ⟨x8.cb, of, none⟩ := rfl
    simp only [Option.isSome_none, Bool.false_eq_true, if_false, if_neg hc0, Option.map_some, Nat.zero_mul, Nat.sub_zero, hadd] at hr4
    rw [hr4, Oper.upon_value, g4b]
    have hR34 : Rep κ11 (Avoid A κ11) w11 (.view 0 0 i false) (.slice (some ⟨x8.cb, of, none⟩) i cap) := by
      have h1 := hF11.tmp 0
      rw [hfr11 0 (.view 0 0 rows.length false) rfl] at h1
      obtain ⟨x11, hx11, hok11⟩ := hS11.live 0 _ rfl
      obtain ⟨e', h2, h3⟩ := hE11.kle 0 (some x8) rfl
      rw [hx11] at h2; cases h2
      have : x11 = x8 := by rcases h3 with h3 | h3 <;> simpa using h3
      subst this
      refine ⟨some x11, x11.cb, of, cap, hx11, rfl, fun y hy => ?_⟩
      cases hy
      exact ⟨by omega, by simp, by intro _; omega, fun _ => ⟨rfl, p7⟩, elx, nx, p5b, p6⟩
    have hF12 := hF11.put (d := some 34) (x := .view 0 0 i false) rfl hR34
    have hfr12 := hfr11.putO (some 34) (.view 0 0 i false)
    have hs11 := hF11.size
    have e34 : (a11.put (some 34) (.slice (some ⟨x8.cb, of, none⟩) i cap)).eval (.tmp 34) = .slice (some ⟨x8.cb, of, none⟩) i cap := eval_put_eq (by omega)
    generalize (a11.put (some 34) (.slice (some ⟨x8.cb, of, none⟩) i cap)) = a12 at hF12 e34 ⊢
    refine ops_sem hA [J32, J33, J34] J35 [J36, J37, J38, J39, J40, J41] hops9 rfl rfl rfl (o_move rfl) hfr12 hS11 hF12 ?_
    intro u35 w13 κ13 hE13 hS13 hu35 hfr13 hF13
    have e34 : (a12.put (some 35) u35).eval (.tmp 34) = .slice (some ⟨x8.cb, of, none⟩) i cap := by rw [eval_put_ne (by omega)]; exact e34
    generalize (a12.put (some 35) u35) = a13 at hF13 e34 ⊢
    refine ops_sem hA [J32, J33, J34, J35] J36 [J37, J38, J39, J40, J41] hops9 rfl rfl rfl (o_move rfl) hfr13 hS13 hF13 ?_
    intro u36 w14 κ14 hE14 hS14 hu36 hfr14 hF14
    have e34 : (a13.put (some 36) u36).eval (.tmp 34) = .slice (some ⟨x8.cb, of, none⟩) i cap := by rw [eval_put_ne (by omega)]; exact e34
    generalize (a13.put (some 36) u36) = a14 at hF14 e34 ⊢
    refine ops_sem hA [J32, J33, J34, J35, J36] J37 [J38, J39, J40, J41] hops9 rfl rfl rfl (o_add (c := ((rows.length + vr.length : Nat) : Int)) rfl rfl (by simp) (by omega) (by omega)) hfr14 hS14 hF14 ?_
    intro u37 w15 κ15 hE15 hS15 hu37 hfr15 hF15
    have e34 : (a14.put (some 37) u37).eval (.tmp 34) = .slice (some ⟨x8.cb, of, none⟩) i cap := by rw [eval_put_ne (by omega)]; exact e34
    generalize (a14.put (some 37) u37) = a15 at hF15 e34 ⊢
    refine ops_sem hA [J32, J33, J34, J35, J36, J37] J38 [J39, J40, J41] hops9 rfl rfl rfl (o_move rfl) hfr15 hS15 hF15 ?_
    intro u38 w16 κ16 hE16 hS16 hu38 hfr16 hF16
    have e34 : (a15.put (some 38) u38).eval (.tmp 34) = .slice (some ⟨x8.cb, of, none⟩) i cap := by rw [eval_put_ne (by omega)]; exact e34
    generalize (a15.put (some 38) u38) = a16 at hF16 e34 ⊢
    refine ops_sem hA [J32, J33, J34, J35, J36, J37, J38] J39 [J40, J41] hops9 rfl rfl rfl (o_sub (c := ((rows.length + vr.length - i : Nat) : Int)) rfl rfl (by omega) (by omega) (by omega)) hfr16 hS16 hF16 ?_
    intro u39 w17 κ17 hE17 hS17 hu39 hfr17 hF17
    have hu39 : u39 = .int .i64 ((rows.length + vr.length - i : Nat) : Int) := hu39
    have e34 : (a16.put (some 39) u39).eval (.tmp 34) = .slice (some ⟨x8.cb, of, none⟩) i cap := by rw [eval_put_ne (by omega)]; exact e34
    have hs16 := hF16.size
    have e39 : (a16.put (some 39) u39).eval (.tmp 39) = .int .i64 ((rows.length + vr.length - i : Nat) : Int) := by rw [eval_put_eq (by omega)]; exact hu39
    generalize (a16.put (some 39) u39) = a17 at hF17 e34 e39 ⊢
    have hE17 := (((((hE11.trans hE13).trans hE14).trans hE15).trans hE16).trans hE17)
    generalize hM : putM _ (some 39) _ = M17 at hfr17
    have hW17 : Wk M17 ((34, .view 0 0 i false) :: (8, .int .i64 rows.length) :: (7, .int .i64 vr.length) :: insM rows.length i vr) := by rw [← hM]; unfold insM; (repeat' (first | exact wk_nil | refine wk_cons rfl ?_))
    clear hM
    replace hfr17 := hfr17.wk hW17
    clear hW17
    generalize putO _ (some 39) _ = fr17 at hfr17 hF17
    clear hfr16 hfr15 hfr14 hfr13 hfr12 hfr11 hfr10 hF16 hF15 hF14 hF13 hF12 hF11 hF10 hS16 hS15 hS14 hS13
    -- the new block
    obtain ⟨inf, hinf, hisz, hib, hz, hzl⟩ := elem_spec g5f
    have hzv : ∃ zv, inf.zero = some zv := by
      unfold zeroA at hz
      rw [hinf] at hz
      simp only at hz
      split at hz
      · rename_i zv h1; exact ⟨zv, h1⟩
      · cases hz
    obtain ⟨zv, hiz⟩ := hzv
    obtain ⟨zv', hzr, hzrep⟩ := zero_run (P := P) (w := w17) (κ := κ17) (T := Avoid A κ17) hz
    have : zv' = zv := by simp [zeroValue, typeInfo, hinf, hiz] at hzr; exact hzr.symm
    subst this
    have hzs : zv'.cells.size = 2 := by have := hzrep.1; simp at this; omega
    have hR17 := hF17.tmp 34
    rw [hfr17 34 (.view 0 0 i false) rfl] at hR17
    have hro : (rowsOf 2 (.view 0 0 i false)).run [some ⟨2, rows⟩] = some (rows.take i, [0]) := by simp [rowsOf, RM.run, hi]
    obtain ⟨us, hgx⟩ := rows_spec (P := P) hS17 hro hR17
    have hti : (rows.take i).length = i := by simp; omega
    have hfirst : ∀ w1 : World, w1.heap = w17.heap → (Builtin.firstCells inf.size i (a17.eval (.tmp 34))).run P w1 = .ok us.toArray w1 := fun w1 hw1 => by
      have := hgx.first w1 hw1 i (by omega)
      have hul := hgx.rep.1
      have hfl := flat_len hgx.width
      rw [hti] at hfl
      rw [hisz, this, List.take_of_length_le (by omega)]
    obtain ⟨w18, cap', rest, q1', q2', q3', q4', q5'⟩ := run_append_make (P := P) (ty := o5.type) (m := rows.length + vr.length - i) g5d g5e hinf hiz e34 hfirst (by omega) (by rw [hib]; omega) (by omega) (by omega) (by omega)
    have hsum : i + (rows.length + vr.length - i) = rows.length + vr.length := by omega
    rw [hsum] at q1' q2' q4'
    refine ops_hand ho5 g5a ?_
    unfold Oper.wp
    have hr5 : (execOp a17.eval o5).run P w17 = .ok (.value (.slice (some ⟨w17.heap.size, 0, none⟩) (rows.length + vr.length) cap')) w18 := by
      rw [e34] at q1'
      simp [execOp, g5c, resolve, invoke, builtin, e34, e39, q1']
    rw [hr5, Oper.upon_value, g5b]
    obtain ⟨r1, r2⟩ := rs_reserve hS17 1
    have hl17 : κ17.length = 1 := hS17.len
    have hs1 : (κ17 ++ List.replicate 1 none)[1]? = some none := by rw [List.getElem?_append_right (by omega), hl17]; rfl
    have hwid : ∀ r ∈ rows.take i ++ List.replicate (rows.length + vr.length - i) z5, r.length = 2 := fun r hr => (List.mem_append.1 hr).elim (hgx.width r) (fun h => by rw [List.eq_of_mem_replicate h]; exact hzl)
    have hul := hgx.rep.1
    have hufl := flat_len hgx.width
    have hcs : (us.toArray ++ Builtin.zeroCells zv'.cells (rows.length + vr.length - i) ++ rest).size = cap' * 2 := by
      have hzc : (Builtin.zeroCells zv'.cells (rows.length + vr.length - i)).size = (rows.length + vr.length - i) * 2 := by simp [Builtin.zeroCells, hzs]
      simp only [Array.size_append, List.size_toArray, q4', hzs, hzc, hul, hufl, hti]
      omega
    have hrep : RepLL (κ17 ++ List.replicate 1 none) (Avoid A (κ17 ++ List.replicate 1 none)) w17 (rows.take i ++ List.replicate (rows.length + vr.length - i) z5) 2 (fun n => (us.toArray ++ Builtin.zeroCells zv'.cells (rows.length + vr.length - i) ++ rest)[n]?) := by
      refine repLL_array (vs := us ++ (Builtin.zeroCells zv'.cells (rows.length + vr.length - i)).toList) hwid ?_ fun j v hj => ?_
      · rw [List.flatten_append]
        refine repV_mono (r1.pres A) (hgx.rep.append ?_)
        rw [zeroCells_eq]
        exact repV_replicate hzrep _
      · have hjl := (List.getElem?_eq_some_iff.1 hj).1
        rw [Array.getElem?_append_left (by simpa using hjl)]
        rw [← hj]
        rw [← Array.getElem?_toList]; simp
    have hlr : (rows.take i ++ List.replicate (rows.length + vr.length - i) z5).length = rows.length + vr.length := by simp; omega
    obtain ⟨s1, s2⟩ := rs_alloc r2 hs1 q3' q5' (by omega) (by rw [hcs, hlr]; exact Nat.mul_le_mul_right _ q2') hrep
    have hvn := view_new (w' := w18) (T' := Avoid A ((κ17 ++ List.replicate 1 none).set 1 (some (some ⟨w17.heap.size, 0, 2, (rows.take i ++ List.replicate (rows.length + vr.length - i) z5).length⟩)))) hs1 (sz := 2) (n := (rows.take i ++ List.replicate (rows.length + vr.length - i) z5).length) (len := rows.length + vr.length) (cap := cap') (full := false) q3' q2' (by simp) (by rw [hlr]; exact fun _ => q2') (by rw [hcs]; exact Nat.le_refl _)
    have hE18 := (hE17.trans r1).trans s1
    have hF18 := ((hF17.mono r1).mono s1).put (d := some 40) rfl hvn
    have hfr18 := hfr17.putO (some 40) (.view 1 0 (rows.length + vr.length) false)
    have hSS : ([some (⟨2, rows⟩ : ABlock)] ++ List.replicate 1 none).set 1 (some ⟨2, rows.take i ++ List.replicate (rows.length + vr.length - i) z5⟩) = [some ⟨2, rows⟩, some ⟨2, rows.take i ++ List.replicate (rows.length + vr.length - i) z5⟩] := rfl
    rw [hSS] at s2
    refine region_post hA [J32, J33, J34, J35, J36, J37, J38, J39, J40] [J41] hops9 (K2 := fun m S => Wk m ((9, .view 1 0 (rows.length + vr.length) false) :: (8, .int .i64 rows.length) :: (7, .int .i64 vr.length) :: insM rows.length i vr) ∧ S = [some ⟨2, rows⟩, some ⟨2, rows.take i ++ List.replicate (rows.length + vr.length - i) z5⟩]) ?_ hfr18 s2 hF18 ?_
    · refine tl_opo (o_move rfl) rfl rfl rfl rfl ?_; refine tl_nil ?_
      exact ⟨by unfold insM; (repeat' (first | exact wk_nil | refine wk_cons rfl ?_)), rfl⟩
    rintro fr19 m19 S19 κ19 a19 w19 hfr19 ⟨hW19, rfl⟩ hE19 hS19 hF19
    replace hfr19 := hfr19.wk hW19
    show q1.wp P _ a19 w19
    have hE19 := hE18.trans hE19
    have hlr2 : (rows.take i).length + (rows.length + vr.length - i) = rows.length + vr.length := by rw [hti]; omega
    refine wp_of_tc hA hq1 (N := 95) (Qt := fun ex m S => ex = .ret ∧ Wk m [(6, .view 1 0 (rows.length + vr.length) false)] ∧ S[1]? = some (some ⟨2, rows.take i ++ vr ++ rows.drop i⟩)) ?_ hfr19 hS19 hF19 ?_
    · generalize hR : rows.take i ++ List.replicate (rows.length + vr.length - i) z5 = R at hlr
      refine tc_seq (tc_ops ?_)
      refine tl_opo (o_move rfl) rfl rfl rfl rfl ?_; refine tl_opo (o_move rfl) rfl rfl rfl rfl ?_
      refine tl_opo (o_slice_view (lo' := i) (hi' := rows.length + vr.length) (rows := R) rfl rfl (by omega) (loIs_some rfl) loIs_none (by omega) (by omega)) rfl rfl rfl rfl ?_
      refine tl_opo (o_move rfl) rfl rfl rfl rfl ?_
      refine tl_opo (o_copy_rows (n := vr.length) rfl rfl hrl rfl (by omega) (by omega) (by rw [List.take_of_length_le (Nat.le_refl _)]; exact hst)) rfl rfl rfl rfl ?_
      rw [List.take_of_length_le (l := vr) (Nat.le_refl _)]
      refine tl_nil ?_
      refine tc_seq (tc_drawR [] rfl ?_)
      refine td_op rfl rfl (o_move rfl) ?_; refine td_op rfl rfl (o_move rfl) ?_; refine td_op rfl rfl (o_move rfl) ?_
      refine td_op rfl rfl (o_add (c := ((i + vr.length : Nat) : Int)) rfl rfl (by simp) (by omega) (by omega)) ?_
      refine td_op rfl rfl (o_slice_view (lo' := i + vr.length) (hi' := rows.length + vr.length) (rows := R.take i ++ vr ++ R.drop (i + vr.length)) rfl rfl (by simp; omega) (loIs_some rfl) loIs_none (by omega) (by simp; omega)) ?_
      refine td_op rfl rfl (o_move rfl) ?_; refine td_op rfl rfl (o_move rfl) ?_
      refine td_op rfl rfl (o_slice_view (lo' := i) (hi' := rows.length) (rows := rows) rfl rfl (Nat.le_refl _) (loIs_some rfl) loIs_none hi (Nat.le_refl _)) ?_
      refine td_op rfl rfl (o_copy_view (n := rows.length - i) (rows := R.take i ++ vr ++ R.drop (i + vr.length)) (rows2 := rows) (ys := rows.drop i) rfl rfl rfl (by omega) (List.take_of_length_le (by simp)) rfl (by simp; omega) (by simp; omega) (by rw [List.take_of_length_le (by simp)]; rw [List.all_eq_true] at hst2 ⊢; exact fun r hr => hst2 r (List.mem_of_mem_drop hr))) ?_
      refine td_nil ?_
      refine ⟨rfl, ?_⟩
      refine tc_seq (tc_ops ?_)
      refine tl_opo (o_move rfl) rfl rfl rfl rfl ?_; refine tl_opo (o_move rfl) rfl rfl rfl rfl ?_; refine tl_nil ?_
      refine tc_ret ⟨rfl, by (repeat' (first | exact wk_nil | refine wk_cons rfl ?_)), ?_⟩
      rw [List.take_of_length_le (l := rows.drop i) (by simp)]
      have ht1 : (R.take i ++ vr ++ R.drop (i + vr.length)).take (i + vr.length) = rows.take i ++ vr := by
        have : R.take i = rows.take i := by rw [← hR, List.take_append_of_le_length (by omega), List.take_take]; simp
        rw [this, List.take_append_of_le_length (by simp; omega), List.take_of_length_le (by simp; omega)]
      have ht2 : (R.take i ++ vr ++ R.drop (i + vr.length)).drop (i + vr.length + (rows.length - i)) = [] := List.drop_eq_nil_of_le (by simp; omega)
      rw [ht1, ht2]
      simp only [List.append_nil]
      rfl
    rintro ex fr20 m20 S20 κ20 a20 w20 hfr20 ⟨rfl, hwk20, hS1⟩ hE20 hS20 hF20
    replace hfr20 := hfr20.wk hwk20
    exact hfin .ret fr20 a20 κ20 _ w20 1 (.inr rfl) hS20 hF20 hS1 (hfr20 6 _ rfl) (fun y hy => ext_pack (hE19.trans hE20) hy)
  · -- in place
    refine wp_cond_false (by rw [hke]; simp; omega) ?_
    refine wp_comp_skip hfb2 hb2 ?_
    show d7.wp P _ a9 w8
    have hx8s : x8.sz = 2 := hxs
    have hS9 := rs_tell (k := vr.length) hS8 hnr p5 (by
      show x8.sh + (rows.length + vr.length) * 2 ≤ nx
      rw [hx8s] at p6 p7
      simp only [Nat.zero_add, Nat.zero_mul, Nat.add_zero] at p6 p7
      have : (rows.length + vr.length) * 2 ≤ cap * 2 := Nat.mul_le_mul_right _ (by omega)
      omega)
    have hS9 : RS A [some (some { x8 with rn := rows.length + vr.length })] [some ⟨2, rows ++ List.replicate vr.length (List.replicate 2 .undef)⟩] w8 := hS9
    have htt : ∀ c, ¬ Avoid A [some (some x8)] c → ¬ Avoid A [some (some { x8 with rn := rows.length + vr.length })] c := by
      rintro c hc (h | ⟨k, y, hk, rfl⟩)
      · exact hc (.inl h)
      · cases k with
        | zero => simp at hk; subst hk; exact hc (.inr ⟨0, x8, rfl, rfl⟩)
        | succ k => simp at hk
    have hF10 : RF A [some (some { x8 with rn := rows.length + vr.length })] w8 95 [.view 0 0 rows.length false, .int .i64 i, .imm vr, .undef, .undef, .undef, .undef, .int .i64 vr.length, .int .i64 rows.length] a9 := by
      refine ⟨hF9.defers, hF9.size, fun t => ?_⟩
      match t with
      | 0 =>
        refine ⟨_, x8.cb, of, cap, rfl, hV0, fun y hy => ?_⟩
        cases hy
        exact ⟨p1, by simp, fun _ => by show rows.length + vr.length ≤ 0 + cap; omega, fun _ => ⟨rfl, p7⟩, elx, nx, p5, p6⟩
      | 1 => have := hF9.tmp 1; rw [hfr9 1 (.int .i64 i) rfl] at this; exact this
      | 2 => have := hF9.tmp 2; rw [hfr9 2 (.imm vr) rfl] at this; exact rep_noref htt _ _ hnv this
      | 3 => trivial
      | 4 => trivial
      | 5 => trivial
      | 6 => trivial
      | 7 => have := hF9.tmp 7; rw [hfr9 7 (.int .i64 vr.length) rfl] at this; exact this
      | 8 => have := hF9.tmp 8; rw [hfr9 8 (.int .i64 rows.length) rfl] at this; exact this
      | t + 9 => show Rep _ _ _ (get [] t) _; rw [get_nil]; trivial
    have hfr10 : Fr [.view 0 0 rows.length false, .int .i64 i, .imm vr, .undef, .undef, .undef, .undef, .int .i64 vr.length, .int .i64 rows.length] ((8, .int .i64 rows.length) :: (7, .int .i64 vr.length) :: insM rows.length i vr) := by
      intro n v hv
      match n, hv with
      | 0, hv => cases hv; rfl
      | 1, hv => cases hv; rfl
      | 2, hv => cases hv; rfl
      | 3, hv => cases hv
      | 4, hv => cases hv
      | 5, hv => cases hv
      | 6, hv => cases hv
      | 7, hv => cases hv; rfl
      | 8, hv => cases hv; rfl
      | n + 9, hv => cases hv
    obtain ⟨R0, hR0⟩ : ∃ R0, R0 = rows ++ List.replicate vr.length (List.replicate 2 AVal.undef) := ⟨_, rfl⟩
    have hR0l : R0.length = rows.length + vr.length := by rw [hR0]; simp
    rw [← hR0] at hS9
    refine wp_of_tc hA hd7 (N := 95) (Qt := fun ex m S => ex = .ret ∧ Wk m [(6, .view 0 0 (rows.length + vr.length) false)] ∧ S[0]? = some (some ⟨2, rows.take i ++ vr ++ rows.drop i⟩)) ?_ hfr10 hS9 hF10 ?_
    · refine tc_seq (tc_ops ?_)
      refine tl_opo (o_move rfl) rfl rfl rfl rfl ?_; refine tl_opo (o_move rfl) rfl rfl rfl rfl ?_; refine tl_opo (o_move rfl) rfl rfl rfl rfl ?_
      refine tl_opo (o_add rfl rfl (c := ((rows.length + vr.length : Nat) : Int)) (by simp) (by omega) (by omega)) rfl rfl rfl rfl ?_
      refine tl_opo (o_slice_view (lo' := 0) (hi' := rows.length + vr.length) (rows := R0) rfl rfl (by omega) loIs_none (loIs_some rfl) (by omega) (by omega)) rfl rfl rfl rfl ?_
      refine tl_opo (o_move rfl) rfl rfl rfl rfl ?_; refine tl_nil ?_
      refine tc_seq (tc_seq (tc_ops ?_))
      refine tl_opo (o_move rfl) rfl rfl rfl rfl ?_; refine tl_opo (o_move rfl) rfl rfl rfl rfl ?_; refine tl_opo (o_move rfl) rfl rfl rfl rfl ?_; refine tl_opo (o_move rfl) rfl rfl rfl rfl ?_
      refine tl_opo (o_add rfl rfl (c := ((i + vr.length : Nat) : Int)) (by simp) (by omega) (by omega)) rfl rfl rfl rfl ?_
      refine tl_opo (o_slice_view (len := rows.length + vr.length - 0) (lo' := i + vr.length) (hi' := rows.length + vr.length - 0) (rows := R0) rfl rfl (by omega) (loIs_some rfl) loIs_none (by omega) (by omega)) rfl rfl rfl rfl ?_
      refine tl_prim (o_prim (rds := [0]) (v := .bool false) rfl hp (by
        cases vr with
        | nil => exact absurd rfl hvr
        | cons r rs =>
          exact ov_run rfl (by omega) (by omega) (by omega) (hv2 r (by simp)))) hp rfl rfl ?_
      refine tl_opo (o_un rfl rfl) rfl rfl rfl rfl ?_; refine tl_nil ?_
      refine tc_cond rfl (fun _ => ?_) (fun h => nomatch h)
      refine tc_seq (tc_drawR [] rfl ?_)
      refine td_op rfl rfl (o_move rfl) ?_; refine td_op rfl rfl (o_move rfl) ?_; refine td_op rfl rfl (o_move rfl) ?_
      refine td_op rfl rfl (o_add (c := ((i + vr.length : Nat) : Int)) rfl rfl (by simp) (by omega) (by omega)) ?_
      refine td_op rfl rfl (o_slice_view (len := rows.length + vr.length - 0) (lo' := i + vr.length) (hi' := rows.length + vr.length - 0) (rows := R0) rfl rfl (by omega) (loIs_some rfl) loIs_none (by omega) (by omega)) ?_
      refine td_op rfl rfl (o_move rfl) ?_; refine td_op rfl rfl (o_move rfl) ?_
      refine td_op rfl rfl (o_slice_view (len := rows.length + vr.length - 0) (lo' := i) (hi' := rows.length + vr.length - 0) (rows := R0) rfl rfl (by omega) (loIs_some rfl) loIs_none (by omega) (by omega)) ?_
      have hdr : ((R0.drop i).take (rows.length + vr.length - 0 - i)).take (rows.length - i) = rows.drop i := by
        rw [List.take_take, hR0, List.drop_append_of_le_length hi, List.take_append_of_le_length (by simp; omega)]
        exact List.take_of_length_le (by simp; omega)
      refine td_op rfl rfl (o_copy_view (n := rows.length - i) (rows := R0) (rows2 := R0) rfl rfl rfl (by omega) rfl rfl (by simp [hR0l]; omega) (by omega) (by rw [hdr]; rw [List.all_eq_true] at hst2 ⊢; exact fun r hr => hst2 r (List.mem_of_mem_drop hr))) ?_
      rw [hdr]
      refine td_nil ?_
      refine ⟨rfl, ?_⟩
      obtain ⟨R1, hR1⟩ : ∃ R1, R1 = R0.take (i + vr.length) ++ rows.drop i ++ R0.drop (i + vr.length + (rows.length - i)) := ⟨_, rfl⟩
      rw [← hR1]
      have hR1l : R1.length = rows.length + vr.length := by rw [hR1]; simp [hR0l]; omega
      refine tc_seq (tc_ops ?_)
      refine tl_opo (o_move rfl) rfl rfl rfl rfl ?_; refine tl_opo (o_move rfl) rfl rfl rfl rfl ?_
      refine tl_opo (o_slice_view (len := rows.length + vr.length - 0) (lo' := i) (hi' := rows.length + vr.length - 0) (rows := R1) rfl rfl (by omega) (loIs_some rfl) loIs_none (by omega) (by omega)) rfl rfl rfl rfl ?_
      refine tl_opo (o_move rfl) rfl rfl rfl rfl ?_
      refine tl_opo (o_copy_rows (n := vr.length) rfl rfl hrl rfl (by omega) (by omega) (by rw [List.take_of_length_le (Nat.le_refl _)]; exact hst)) rfl rfl rfl rfl ?_
      rw [List.take_of_length_le (l := vr) (Nat.le_refl _)]
      refine tl_nil ?_
      refine tc_seq (tc_ops ?_)
      refine tl_opo (o_move rfl) rfl rfl rfl rfl ?_; refine tl_opo (o_move rfl) rfl rfl rfl rfl ?_; refine tl_nil ?_
      refine tc_ret ⟨rfl, by (repeat' (first | exact wk_nil | refine wk_cons rfl ?_)), ?_⟩
      have e1 : R1.take i = rows.take i := by
        rw [hR1, List.append_assoc, List.take_append_of_le_length (by simp [hR0l]; omega), List.take_take, hR0, List.take_append_of_le_length (by omega), Nat.min_eq_left (by omega)]
      have e2 : R1.drop (i + vr.length) = rows.drop i := by
        have : R0.drop (i + vr.length + (rows.length - i)) = [] := List.drop_eq_nil_of_le (by omega)
        rw [hR1, this, List.append_nil, List.drop_append_of_le_length (by simp [hR0l]; omega), List.drop_eq_nil_of_le (by simp; omega), List.nil_append]
      rw [e1, e2]
      rfl
    rintro ex fr20 m20 S20 κ20 a20 w20 hfr20 ⟨rfl, hwk20, hS1⟩ hE20 hS20 hF20
    replace hfr20 := hfr20.wk hwk20
    exact hfin .ret fr20 a20 κ20 _ w20 0 (.inr rfl) hS20 hF20 hS1 (hfr20 6 _ rfl) (fun y hy => hE8.trans (ext_tell hE20 hy))
end
end Go.Eng

/- slices.Insert as a function whose proof is done by hand. -/
namespace Go.Eng
open Go

def rowsV : AVal → Option (List (List AVal))
  | .imm rows => some rows
  | .lim rows => some rows
  | _ => none

def insG (args : List AVal) (S : Store) : Option (AVal × Store) := match args, S with
  | [.view 0 0 n false, .int .i64 i, v], [some blk] => match rowsV v with
    | some vr =>
      if blk.sz = 2 ∧ n = blk.rows.length ∧ 0 ≤ i ∧ i ≤ n ∧ 0 < vr.length ∧ (vr.all fun r => Nat.beq r.length 2) = true ∧ (vr.all fun r => r.all storable) = true ∧ (blk.rows.all fun r => r.all storable) = true ∧ norefLL blk.rows = true ∧ norefLL vr = true ∧ (blk.rows.length + vr.length) * 24 ≤ 17592186044416 then
        some (.view 1 0 (n + vr.length) false, [none, some ⟨2, blk.rows.take i.toNat ++ vr ++ blk.rows.drop i.toNat⟩])
      else none
    | none => none
  | _, _ => none

theorem rowsV_rep {κ : Kap} {T : Nat → Prop} {w : World} {a : AVal} {v : Value} {rows : List (List AVal)} (h : rowsV a = some rows) (hr : Rep κ T w a v) : Rep κ T w (.imm rows) v := by
  cases a <;> simp only [rowsV, Option.some.injEq, reduceCtorEq] at h
  · subst h; exact hr
  · subst h
    obtain ⟨p, n, c, h1, h2, h3, h4, h5⟩ := hr
    exact ⟨p, n, c, h1, h2, by omega, h4, h5⟩

theorem insert_ok {P : Program} {AP : AProg} (hA : AOk P AP) {f ov rot : Nat} (haf : compileAt P f = some (insF ov rot)) (hp : AP.prim ov = some (ovPrim 2)) (hchk : insChk P f = true) : PrimOk P f (primKeep insG) :=
  primKeep_ok fun args S v S1 h => by
    unfold insG at h
    split at h
    · rename_i n i va blk
      split at h
      · rename_i vr hvr
        split at h
        · rename_i hc
          obtain ⟨c1, c2, c3, c4, c5, c6, c7, c8, c9, c10, c11⟩ := hc
          simp only [Option.some.injEq, Prod.mk.injEq] at h
          obtain ⟨rfl, rfl⟩ := h
          subst c2
          obtain ⟨sz, rows⟩ := blk
          simp only at *
          subst c1
          obtain ⟨k, rfl⟩ : ∃ k : Nat, i = k := ⟨i.toNat, by omega⟩
          rw [Int.toNat_natCast]
          have hd := insert_does hA haf hp hchk (rows := rows) (vr := vr) (i := k) (by omega) (fun h => by rw [h] at c5; simp at c5) (fun r hr => by rw [List.all_eq_true] at c6; exact Nat.eq_of_beq_eq_true (c6 r hr)) c7 c8 c9 c10 c11
          intro A κ w vs hS hv
          refine hd A κ w vs hS ?_
          match vs, hv with
          | [v1, v2, v3], hv => exact .cons hv.head (.cons hv.tail.head (.cons (rowsV_rep hvr hv.tail.tail.head) .nil))
          | [], hv => have := hv.1; simp at this
          | [_], hv => have := hv.1; simp at this
          | [_, _], hv => have := hv.1; simp at this
          | _ :: _ :: _ :: _ :: _, hv => have := hv.1; simp at this
        · cases h
      · cases h
    · cases h

end Go.Eng

/- The opening of a slice of rows. -/
namespace Go.Eng
open Go Go.RowKit Go.ChangeShapes Go.WideShapes

theorem open_rows_rep {H : Type} {enc : TypeId × Value → H} {P : Program} {r : Reach} {b0 : Nat} {t el : TypeId} {W : World} {sp : Nat → Bool} {v : Value} {d : DataW H} {ps : List MemPlace} (dd : Nat) (ss : List Shp) (ht : P.underlying t = some (.slice el)) (hs : shapeT P dd t = some [.sl ss])
    (hval : Value.okWide P W r b0 t v) (h : DataW.Trod enc P W 0 sp true t v d ps) : ∃ rows, Rep [] (fun _ => False) W (.imm rows) v ∧ rows.length ≤ maxLen ∧ ∀ r ∈ rows, ShpAs ss r := by
  obtain ⟨a0, len, cap, rfl⟩ := okWide_slice ht hval
  obtain ⟨fuel, hf⟩ := h
  obtain ⟨xs, h1, h2⟩ := opens_t dd fuel t _ _ _ hs hf
  simp only [ShpAs, ShpA] at h2
  obtain ⟨_, _, rfl, ⟨rows, rfl, h3, h4⟩, rfl⟩ := h2
  refine ⟨rows, ?_, h3, h4⟩
  exact h1.2 0 _ _ rfl (by simp [Value.cells])

end Go.Eng

/- A slice that grows, and the blocks beside it. -/
namespace Go.Eng
open Go

theorem Acc.young {k sz : Nat} {S : Store} {v : AVal} {rows : List (List AVal)} (h : Acc k sz S v rows) {j : Nat} (hj : S.length ≤ j) : ∀ off len full, v ≠ .view j off len full := by
  intro off len full he
  rcases h with ⟨h1, _⟩ | ⟨_, b, _, h3, h4⟩
  · rw [h1] at he; cases he
  · rw [h3] at he
    cases he
    have := (List.getElem?_eq_some_iff.1 h4).1
    omega

/-- a slice grows; every other block stays -/
theorem tl_acc3 {AP : AProg} {N : Nat} {d : Option Nat} {k sz bytes : Nat} {x y : AOpd} {v vy : AVal} {rows new : List (List AVal)} {g : Option (Nat × Bool)} {un : List Nat} {l : List AInstr} {m : FM} {S : Store} {K : FM → Store → Prop}
    (hx : lo m x = some v) (hy : lo m y = some vy) (hacc : Acc k sz S v rows) (hr : rowsOf sz vy = .ok new) (hne : new ≠ []) (hst : (new.all fun r => r.all storable) = true) (hb : (rows.length + new.length) * bytes ≤ 17592186044416) (hkS : k ≤ S.length)
    (hd : (d.all fun d => d < N) = true) (hg : gd m g = some true)
    (hk : ∀ v' S', Acc k sz S' v' (rows ++ new) → S'.length = S.length + 1 → (∀ j, j < S.length → (∀ off len full, v ≠ .view j off len full) → S'[j]? = S[j]?) → TL AP N l (putM m d v') S' K) : TL AP N (⟨d, .append sz bytes x y, g, un⟩ :: l) m S K := by
  rcases hacc with ⟨rfl, rfl⟩ | ⟨h1, b, h2, rfl, h4⟩
  · refine tl_opn (o_append_nils hx hy hr hne (by simp at hb; omega)) rfl hd hg rfl ?_
    refine hk _ _ ?_ (by simp) ?_
    · refine .inr ⟨by simpa using hne, S.length, hkS, by simp, ?_⟩
      simp
    · intro j hj _
      rw [set_snoc, List.getElem?_append_left (by omega)]
  · have hbl : b < S.length := (List.getElem?_eq_some_iff.1 h4).1
    refine tl_opn (o_append_view hx hy hr hne (rows0 := rows) (by rw [List.getElem?_append_left hbl]; exact h4) rfl hb hst) rfl hd hg rfl ?_
    refine hk _ _ ?_ (by simp) ?_
    · refine .inr ⟨by simp [h1], S.length, hkS, by simp, ?_⟩
      rw [set_get, if_pos ⟨rfl, by simp⟩]
    · intro j hj hv
      have hjb : j ≠ b := fun h => hv 0 rows.length false (by rw [h])
      rw [set_get, if_neg (by omega), set_get, if_neg (by omega), List.getElem?_append_left (by omega)]

end Go.Eng

