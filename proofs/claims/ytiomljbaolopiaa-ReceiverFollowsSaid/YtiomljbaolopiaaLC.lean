/- A part of the engine: a machine over abstract values, and the proof that the program does what it does; no condition. -/
import Derived.Test.YtiomljbaolopiaaLA
set_option linter.unusedSectionVars false
set_option linter.unusedVariables false
set_option linter.unusedSimpArgs false
set_option linter.unnecessarySimpa false
/- An instruction is taken: what the machine answers. -/
namespace Go.Eng.Recv
open Go Go.Eng
attribute [local irreducible] OpR TL TD TC CallR

theorem encS_storable (l : List Sta) : ((encS l).all fun r => r.all storable) = true := by
  simp only [encS, List.all_map, List.all_eq_true]
  intro x _; rfl
theorem insL_enc {l : List Sta} {n : Int} {v : List UInt8} : (encS l).take (lb l n) ++ [[.int .u64 n, .str v]] ++ (encS l).drop (lb l n) = encS (insL l n v) := by
  simp [encS, insL, List.map_take, List.map_drop, Sta.row]
theorem insL_len (l : List Sta) (n : Int) (v : List UInt8) : (insL l n v).length = l.length + 1 := by
  have := lb_le l n
  simp [insL]; omega

theorem cell_res {m : FM} {S : Store} {t sz b i f : Nat} {g : Bool} {blk : ABlock} {r : List AVal} {v : AVal} (h : lkp m t = some (.ptr b i f)) (h1 : S[b]? = some (some blk)) (h2 : blk.rows[i]? = some r) (h3 : f + sz ≤ r.length) (h4 : aextr g sz (r.drop f) = some v) :
    loRes m S (.cell t g sz) = some v := by simp only [loRes, h, sem, RM.run, h1, h2, h3, h4, if_true, Eff.o]
theorem resL_cons {m : FM} {S : Store} {r : ARes} {rs : List ARes} {v : AVal} {vs : List AVal} (h : loRes m S r = some v) (hs : loResL m S rs = some vs) : loResL m S (r :: rs) = some (v :: vs) := by
  simp only [loResL, h, hs]
theorem mapL_cons {n : Nat} {S : Store} {v v' : AVal} {vs vs' : List AVal} (h : ∃ ids, (frz n v).run S = some (v', ids)) (hr : ∃ ids, (RM.mapL (frz n) vs).run S = some (vs', ids)) : ∃ ids, (RM.mapL (frz n) (v :: vs)).run S = some (v' :: vs', ids) := by
  obtain ⟨i1, h1⟩ := h
  obtain ⟨i2, h2⟩ := hr
  simp only [RM.mapL]
  exact ⟨_, run_bindO _ _ _ _ _ _ _ h1 (run_bindO _ _ _ _ _ _ _ h2 rfl)⟩

theorem take_ok (l : List Sta) (i : Ins) (hne : l ≠ []) (hl : l.length ≤ 100000) (hr : Rises l) (hb : ∀ s ∈ l, s.tx.length + i.diff.length ≤ 1000000) :
    CallR AP 34 [recvV l, .agg i.row] (.tuple [recvV (takeR l i).1, .bool (takeR l i).2.1, .int .i64 (takeR l i).2.2]) := by
  obtain ⟨x0, l', hxl⟩ : ∃ x l', l = x :: l' := by
    cases l with
    | nil => exact absurd rfl hne
    | cons x l' => exact ⟨x, l', rfl⟩
  have hpos : 0 < l.length := by rw [hxl]; simp
  refine callR_of (af := c34) rfl rfl ?_
  refine tc_seq (tc_ops ?_)
  refine tl_opn (o_box rfl rfl rfl rfl) rfl rfl rfl rfl ?_; refine tl_opn (o_box rfl rfl rfl rfl) rfl rfl rfl rfl ?_; refine tl_opn o_alloc rfl rfl rfl rfl ?_; refine tl_opo (o_move rfl) rfl rfl rfl rfl ?_; refine tl_opo (o_move rfl) rfl rfl rfl rfl ?_; refine tl_nil ?_
  dsimp only [putM, initM, acells, effS, List.nil_append, List.cons_append, List.length_nil, List.length_cons, List.set_cons_zero, List.set_cons_succ, List.set_nil, List.append_nil, Nat.zero_add, Nat.add_zero, Nat.reduceAdd, List.replicate, nslots]
  refine tc_seq (tc_ops ?_)
  refine tl_opo (o_load rfl rfl rfl (Nat.le_of_ble_eq_true rfl) rfl) rfl rfl rfl rfl ?_; refine tl_opo (o_faddr rfl) rfl rfl rfl rfl ?_; refine tl_opo (o_load rfl rfl rfl (Nat.le_of_ble_eq_true rfl) rfl) rfl rfl rfl rfl ?_
  refine tl_call' (as := [recvV l, .int .u64 i.new]) (as' := [recvV l, .int .u64 i.new]) rfl (frzL_cons (fun n => ⟨_, frz_ok (recvV_closed l)⟩) (frzL_cons (fun n => ⟨_, frz_ok rfl⟩) frzL_nil))
    (place_ok l i.new (by omega) hr) (by simp [norefL, recvV_noref, AVal.noref]) rfl rfl rfl rfl ?_
  refine tl_opo (o_move rfl) rfl rfl rfl rfl ?_; refine tl_opo (o_extract rfl rfl) rfl rfl rfl rfl ?_; refine tl_opo (o_extract rfl rfl) rfl rfl rfl rfl ?_; refine tl_opo (o_move rfl) rfl rfl rfl rfl ?_; refine tl_opo (o_move rfl) rfl rfl rfl rfl ?_; refine tl_nil ?_
  dsimp only [putM, initM, acells, effS, List.nil_append, List.cons_append, List.length_nil, List.length_cons, List.set_cons_zero, List.set_cons_succ, List.set_nil, List.append_nil, Nat.zero_add, Nat.add_zero, Nat.reduceAdd, List.replicate, nslots]
  refine tc_seq (tc_ops ?_)
  refine tl_opo (o_load rfl rfl rfl (Nat.le_of_ble_eq_true rfl) rfl) rfl rfl rfl rfl ?_; refine tl_opo (o_faddr rfl) rfl rfl rfl rfl ?_; refine tl_opo (o_load rfl rfl rfl (Nat.le_of_ble_eq_true rfl) rfl) rfl rfl rfl rfl ?_
  refine tl_call' (as := [recvV l, .int .u64 i.old]) (as' := [recvV l, .int .u64 i.old]) rfl (frzL_cons (fun n => ⟨_, frz_ok (recvV_closed l)⟩) (frzL_cons (fun n => ⟨_, frz_ok rfl⟩) frzL_nil))
    (of_ok l i.old (by omega) hr) (by simp [norefL, recvV_noref, AVal.noref]) rfl rfl rfl rfl ?_
  refine tl_opo (o_move rfl) rfl rfl rfl rfl ?_; refine tl_opo (o_extract rfl rfl) rfl rfl rfl rfl ?_; refine tl_opo (o_extract rfl rfl) rfl rfl rfl rfl ?_; refine tl_opo (o_move rfl) rfl rfl rfl rfl ?_; refine tl_opo (o_move rfl) rfl rfl rfl rfl ?_; refine tl_nil ?_
  dsimp only [putM, initM, acells, effS, List.nil_append, List.cons_append, List.length_nil, List.length_cons, List.set_cons_zero, List.set_cons_succ, List.set_nil, List.append_nil, Nat.zero_add, Nat.add_zero, Nat.reduceAdd, List.replicate, nslots]
  unfold takeR
  cases hf : found l i.new with
  | true =>
    refine tc_seq (tc_block (tc_seq (tc_ops ?_)))
    refine tl_opo (o_move rfl) rfl rfl rfl rfl ?_; refine tl_opo (o_move rfl) rfl rfl rfl rfl ?_; refine tl_nil ?_
    refine tc_cond rfl (fun _ => ?_) (fun h => nomatch h)
    refine tc_seq (tc_ops ?_)
    refine tl_opo (o_load rfl rfl rfl (Nat.le_of_ble_eq_true rfl) rfl) rfl rfl rfl rfl ?_; refine tl_opo (o_store rfl rfl rfl rfl rfl rfl rfl (Nat.le_of_ble_eq_true rfl) rfl) rfl rfl rfl rfl ?_; refine tl_opo (o_move rfl) rfl rfl rfl rfl ?_; refine tl_opo (o_move rfl) rfl rfl rfl rfl ?_; refine tl_nil ?_
    dsimp only [putM, initM, acells, effS, List.nil_append, List.cons_append, List.length_nil, List.length_cons, List.set_cons_zero, List.set_cons_succ, List.set_nil, List.append_nil, Nat.zero_add, Nat.add_zero, Nat.reduceAdd, List.replicate, nslots]
    exact tc_ret (retd rfl ⟨_, frz_ok (by simp [one, acells, AVal.closed, closedL])⟩)
  | false =>
  rw [if_neg (by simp)]
  have hx0 : (encS l)[0]? = some x0.row := by rw [hxl]; rfl
  have hhd : l.headD ⟨0, []⟩ = x0 := by rw [hxl]; rfl
  rw [hhd]
  by_cases h9 : i.new < x0.num
  · rw [if_pos h9]
    refine tc_seq (tc_block (tc_seq (tc_ops ?_)))
    refine tl_opo (o_move rfl) rfl rfl rfl rfl ?_; refine tl_opo (o_move rfl) rfl rfl rfl rfl ?_; refine tl_nil ?_
    refine tc_cond rfl (fun h => nomatch h) (fun _ => ?_)
    refine tc_seq (tc_drawR [] rfl ?_)
    refine td_op rfl rfl (o_faddr rfl) ?_; refine td_op rfl rfl (o_load rfl rfl rfl (Nat.le_of_ble_eq_true rfl) rfl) ?_; refine td_op rfl rfl (o_faddr rfl) ?_; refine td_op rfl rfl (o_load rfl rfl rfl (Nat.le_of_ble_eq_true rfl) rfl) ?_
    refine td_op rfl rfl (o_iaddr (n := 0) rfl rfl hx0 rfl) ?_
    refine td_op rfl rfl (o_faddrr rfl) ?_; refine td_op rfl rfl (o_loadr rfl (Nat.le_of_ble_eq_true rfl) rfl) ?_
    refine td_op rfl rfl (o_lss' rfl rfl (t := true) (by simpa using h9)) ?_
    refine td_op rfl rfl (o_move rfl) ?_; refine td_nil ?_
    refine ⟨rfl, ?_⟩
    refine tc_cond rfl (fun _ => ?_) (fun h => nomatch h)
    refine tc_seq (tc_ops ?_)
    refine tl_opo (o_load rfl rfl rfl (Nat.le_of_ble_eq_true rfl) rfl) rfl rfl rfl rfl ?_; refine tl_opo (o_store rfl rfl rfl rfl rfl rfl rfl (Nat.le_of_ble_eq_true rfl) rfl) rfl rfl rfl rfl ?_; refine tl_opo (o_move rfl) rfl rfl rfl rfl ?_; refine tl_opo (o_move rfl) rfl rfl rfl rfl ?_; refine tl_nil ?_
    exact tc_ret (retd rfl ⟨_, frz_ok (by simp [one, acells, AVal.closed, closedL])⟩)
  rw [if_neg h9]
  by_cases h19 : found l i.old = false ∨ i.old ≥ i.new
  · rw [if_pos h19]
    refine tc_seq (tc_block (tc_seq (tc_ops ?_)))
    refine tl_opo (o_move rfl) rfl rfl rfl rfl ?_; refine tl_opo (o_move rfl) rfl rfl rfl rfl ?_; refine tl_nil ?_
    refine tc_cond rfl (fun h => nomatch h) (fun _ => ?_)
    refine tc_seq (tc_drawR [] rfl ?_)
    refine td_op rfl rfl (o_faddr rfl) ?_; refine td_op rfl rfl (o_load rfl rfl rfl (Nat.le_of_ble_eq_true rfl) rfl) ?_; refine td_op rfl rfl (o_faddr rfl) ?_; refine td_op rfl rfl (o_load rfl rfl rfl (Nat.le_of_ble_eq_true rfl) rfl) ?_
    refine td_op rfl rfl (o_iaddr (n := 0) rfl rfl hx0 rfl) ?_
    refine td_op rfl rfl (o_faddrr rfl) ?_; refine td_op rfl rfl (o_loadr rfl (Nat.le_of_ble_eq_true rfl) rfl) ?_
    refine td_op rfl rfl (o_lss' rfl rfl (t := false) (by simpa using h9)) ?_
    refine td_op rfl rfl (o_move rfl) ?_; refine td_nil ?_
    refine ⟨rfl, ?_⟩
    refine tc_cond rfl (fun h => nomatch h) (fun _ => ?_)
    cases ho : found l i.old with
    | false =>
      refine tc_seq (tc_ops ?_)
      refine tl_opo (o_move rfl) rfl rfl rfl rfl ?_; refine tl_opo (o_un rfl rfl) rfl rfl rfl rfl ?_; refine tl_opo (o_move rfl) rfl rfl rfl rfl ?_; refine tl_off0 rfl rfl rfl ?_; refine tl_off0 rfl rfl rfl ?_; refine tl_off0 rfl rfl rfl ?_; refine tl_off0 rfl rfl rfl ?_; refine tl_off0 rfl rfl rfl ?_; refine tl_opo (o_pick rfl rfl rfl) rfl rfl rfl rfl ?_; refine tl_opo (o_move rfl) rfl rfl rfl rfl ?_; refine tl_nil ?_
      refine tc_cond rfl (fun _ => ?_) (fun h => nomatch h)
      refine tc_seq (tc_ops ?_)
      refine tl_opo (o_load rfl rfl rfl (Nat.le_of_ble_eq_true rfl) rfl) rfl rfl rfl rfl ?_; refine tl_opo (o_store rfl rfl rfl rfl rfl rfl rfl (Nat.le_of_ble_eq_true rfl) rfl) rfl rfl rfl rfl ?_; refine tl_opo (o_move rfl) rfl rfl rfl rfl ?_; refine tl_opo (o_move rfl) rfl rfl rfl rfl ?_; refine tl_nil ?_
      exact tc_ret (retd rfl ⟨_, frz_ok (by simp [one, acells, AVal.closed, closedL])⟩)
    | true =>
      refine tc_seq (tc_ops ?_)
      refine tl_opo (o_move rfl) rfl rfl rfl rfl ?_; refine tl_opo (o_un rfl rfl) rfl rfl rfl rfl ?_; refine tl_opo (o_move rfl) rfl rfl rfl rfl ?_; refine tl_opo (o_faddr rfl) rfl rfl rfl rfl ?_; refine tl_opo (o_load rfl rfl rfl (Nat.le_of_ble_eq_true rfl) rfl) rfl rfl rfl rfl ?_; refine tl_opo (o_faddr rfl) rfl rfl rfl rfl ?_; refine tl_opo (o_load rfl rfl rfl (Nat.le_of_ble_eq_true rfl) rfl) rfl rfl rfl rfl ?_
      refine tl_opo (o_geq' rfl rfl (t := true) (by rw [ho] at h19; simpa using h19)) rfl rfl rfl rfl ?_
      refine tl_opo (o_pick rfl rfl rfl) rfl rfl rfl rfl ?_; refine tl_opo (o_move rfl) rfl rfl rfl rfl ?_; refine tl_nil ?_
      refine tc_cond rfl (fun _ => ?_) (fun h => nomatch h)
      refine tc_seq (tc_ops ?_)
      refine tl_opo (o_load rfl rfl rfl (Nat.le_of_ble_eq_true rfl) rfl) rfl rfl rfl rfl ?_; refine tl_opo (o_store rfl rfl rfl rfl rfl rfl rfl (Nat.le_of_ble_eq_true rfl) rfl) rfl rfl rfl rfl ?_; refine tl_opo (o_move rfl) rfl rfl rfl rfl ?_; refine tl_opo (o_move rfl) rfl rfl rfl rfl ?_; refine tl_nil ?_
      exact tc_ret (retd rfl ⟨_, frz_ok (by simp [one, acells, AVal.closed, closedL])⟩)
  rw [if_neg h19]
  have ho : found l i.old = true := by
    cases h : found l i.old with
    | true => rfl
    | false => exact absurd (.inl h) h19
  have hon : ¬ i.old ≥ i.new := fun h => h19 (.inr h)
  have htx : (ofTx l i.old).length + i.diff.length ≤ 1000000 := by
    rw [ofTx_found ho]
    exact hb _ (List.getElem_mem _)
  refine tc_seq (tc_block (tc_seq (tc_ops ?_)))
  refine tl_opo (o_move rfl) rfl rfl rfl rfl ?_; refine tl_opo (o_move rfl) rfl rfl rfl rfl ?_; refine tl_nil ?_
  refine tc_cond rfl (fun h => nomatch h) (fun _ => ?_)
  refine tc_seq (tc_drawR [] rfl ?_)
  refine td_op rfl rfl (o_faddr rfl) ?_; refine td_op rfl rfl (o_load rfl rfl rfl (Nat.le_of_ble_eq_true rfl) rfl) ?_; refine td_op rfl rfl (o_faddr rfl) ?_; refine td_op rfl rfl (o_load rfl rfl rfl (Nat.le_of_ble_eq_true rfl) rfl) ?_
  refine td_op rfl rfl (o_iaddr (n := 0) rfl rfl hx0 rfl) ?_
  refine td_op rfl rfl (o_faddrr rfl) ?_; refine td_op rfl rfl (o_loadr rfl (Nat.le_of_ble_eq_true rfl) rfl) ?_
  refine td_op rfl rfl (o_lss' rfl rfl (t := false) (by simpa using h9)) ?_
  refine td_op rfl rfl (o_move rfl) ?_; refine td_nil ?_
  refine ⟨rfl, ?_⟩
  refine tc_cond rfl (fun h => nomatch h) (fun _ => ?_)
  rw [ho]
  refine tc_seq (tc_ops ?_)
  refine tl_opo (o_move rfl) rfl rfl rfl rfl ?_; refine tl_opo (o_un rfl rfl) rfl rfl rfl rfl ?_; refine tl_opo (o_move rfl) rfl rfl rfl rfl ?_; refine tl_opo (o_faddr rfl) rfl rfl rfl rfl ?_; refine tl_opo (o_load rfl rfl rfl (Nat.le_of_ble_eq_true rfl) rfl) rfl rfl rfl rfl ?_; refine tl_opo (o_faddr rfl) rfl rfl rfl rfl ?_; refine tl_opo (o_load rfl rfl rfl (Nat.le_of_ble_eq_true rfl) rfl) rfl rfl rfl rfl ?_
  refine tl_opo (o_geq' rfl rfl (t := false) (by simpa using hon)) rfl rfl rfl rfl ?_
  refine tl_opo (o_pick rfl rfl rfl) rfl rfl rfl rfl ?_; refine tl_opo (o_move rfl) rfl rfl rfl rfl ?_; refine tl_nil ?_
  refine tc_cond rfl (fun h => nomatch h) (fun _ => tc_skip ?_)
  refine tc_seq (tc_ops ?_)
  refine tl_opo (o_faddr rfl) rfl rfl rfl rfl ?_; refine tl_opo (o_faddr rfl) rfl rfl rfl rfl ?_; refine tl_opo (o_load rfl rfl rfl (Nat.le_of_ble_eq_true rfl) rfl) rfl rfl rfl rfl ?_; refine tl_opo (o_move rfl) rfl rfl rfl rfl ?_; refine tl_opo (o_faddr rfl) rfl rfl rfl rfl ?_; refine tl_opo (o_load rfl rfl rfl (Nat.le_of_ble_eq_true rfl) rfl) rfl rfl rfl rfl ?_
  refine tl_callf (f := 48) (as := [.str (ofTx l i.old), .str i.diff]) (as' := [.str (ofTx l i.old), .str i.diff]) rfl rfl (frzL_cons (fun n => ⟨_, frz_ok rfl⟩) (frzL_cons (fun n => ⟨_, frz_ok rfl⟩) frzL_nil)) (rule_ok _ _ htx) rfl rfl rfl rfl rfl ?_
  refine tl_opo (o_move rfl) rfl rfl rfl rfl ?_; refine tl_opo (o_extract rfl rfl) rfl rfl rfl rfl ?_; refine tl_opo (o_extract rfl rfl) rfl rfl rfl rfl ?_; refine tl_opo (o_move rfl) rfl rfl rfl rfl ?_; refine tl_opo (o_move rfl) rfl rfl rfl rfl ?_; refine tl_nil ?_
  refine tc_seq (tc_seq (tc_ops ?_))
  refine tl_opo (o_move rfl) rfl rfl rfl rfl ?_
  cases hd : doR (ofTx l i.old) i.diff with
  | none =>
    refine tl_opo (o_neq' rfl rfl (t := true) (by simp)) rfl rfl rfl rfl ?_
    refine tl_nil ?_
    refine tc_cond rfl (fun _ => ?_) (fun h => nomatch h)
    refine tc_seq (tc_ops ?_)
    refine tl_opo (o_load rfl rfl rfl (Nat.le_of_ble_eq_true rfl) rfl) rfl rfl rfl rfl ?_; refine tl_opo (o_store rfl rfl rfl rfl rfl rfl rfl (Nat.le_of_ble_eq_true rfl) rfl) rfl rfl rfl rfl ?_; refine tl_opo (o_move rfl) rfl rfl rfl rfl ?_; refine tl_opo (o_move rfl) rfl rfl rfl rfl ?_; refine tl_nil ?_
    dsimp only [putM, initM, acells, effS, List.nil_append, List.cons_append, List.length_nil, List.length_cons, List.set_cons_zero, List.set_cons_succ, List.set_nil, List.append_nil, Nat.zero_add, Nat.add_zero, Nat.reduceAdd, List.replicate, nslots]
    exact tc_ret (retd rfl ⟨_, frz_ok (by simp [one, acells, AVal.closed, closedL])⟩)
  | some v =>
  refine tl_opo (o_neq' rfl rfl (t := false) (by simp)) rfl rfl rfl rfl ?_
  refine tl_nil ?_
  refine tc_cond rfl (fun h => nomatch h) (fun _ => tc_skip ?_)
  refine tc_seq (tc_ops ?_)
  refine tl_opo (o_move rfl) rfl rfl rfl rfl ?_; refine tl_opo (o_faddr rfl) rfl rfl rfl rfl ?_; refine tl_opo (o_load rfl rfl rfl (Nat.le_of_ble_eq_true rfl) rfl) rfl rfl rfl rfl ?_; refine tl_opo (o_len_imm rfl) rfl rfl rfl rfl ?_
  refine tl_opo (o_eql' rfl rfl (t := decide (lb l i.new = l.length)) (by rw [Bool.eq_iff_iff]; simp; omega)) rfl rfl rfl rfl ?_
  refine tl_opo (o_move rfl) rfl rfl rfl rfl ?_; refine tl_nil ?_
  dsimp only [putM, initM, acells, effS, List.nil_append, List.cons_append, List.length_nil, List.length_cons, List.set_cons_zero, List.set_cons_succ, List.set_nil, List.append_nil, Nat.zero_add, Nat.add_zero, Nat.reduceAdd, List.replicate, nslots]
  obtain ⟨cv, S1, g1, j, rfl, g2⟩ := clone_some x0 l' (by rw [hxl] at hl; simp at hl; omega)
  rw [← hxl] at g1 g2
  refine tc_seq (tc_drawR [none, none] rfl ?_)
  refine td_op rfl rfl (o_faddr rfl) ?_; refine td_op rfl rfl (o_load rfl rfl rfl (Nat.le_of_ble_eq_true rfl) rfl) ?_
  refine td_op rfl rfl (o_keepv rfl rfl rfl (by simp [norefL, AVal.noref]) (by rw [hxl]; rfl) g1 g2 (encS_noref _)) ?_
  refine td_op rfl rfl (o_move rfl) ?_; refine td_op rfl rfl (o_faddr rfl) ?_; refine td_op rfl rfl (o_load rfl rfl rfl (Nat.le_of_ble_eq_true rfl) rfl) ?_; refine td_op rfl rfl (o_move rfl) ?_; refine td_op rfl rfl (o_build rfl rfl) ?_; refine td_op rfl rfl (o_buildSlice rfl rfl) ?_
  refine td_op rfl rfl (o_ins (rows := encS l) (vr := [[.int .u64 i.new, .str v]]) (i := lb l i.new) rfl rfl (by simpa using lb_le l i.new) (by simp) rfl rfl (encS_storable l) (encS_noref l) rfl (by simp; omega)) ?_
  rw [insL_enc]
  obtain ⟨all, hall⟩ : ∃ all, insL l i.new v = all := ⟨_, rfl⟩
  have hal : all.length = l.length + 1 := by rw [← hall]; exact insL_len _ _ _
  rw [hall]
  have hvl : (encS l).length + ([[.int .u64 i.new, .str v]] : List (List AVal)).length = all.length := by rw [hal]; simp
  rw [hvl]
  refine td_op rfl rfl (o_faddr rfl) ?_; refine td_op rfl rfl (o_store rfl rfl rfl rfl rfl rfl rfl (Nat.le_of_ble_eq_true rfl) rfl) ?_; refine td_nil ?_
  refine ⟨rfl, ?_⟩
  dsimp only [putM, initM, acells, effS, List.nil_append, List.cons_append, List.length_nil, List.length_cons, List.set_cons_zero, List.set_cons_succ, List.set_nil, List.append_nil, Nat.zero_add, Nat.add_zero, Nat.reduceAdd, List.replicate, nslots]
  refine tc_seq (tc_ops ?_)
  refine tl_opo (o_faddr rfl) rfl rfl rfl rfl ?_; refine tl_opo (o_load rfl rfl rfl (Nat.le_of_ble_eq_true rfl) rfl) rfl rfl rfl rfl ?_; refine tl_opo (o_len_view rfl) rfl rfl rfl rfl ?_
  refine tl_opo (o_sub rfl rfl (c := (all.length : Int) - 8) rfl (by omega) (by omega)) rfl rfl rfl rfl ?_
  refine tl_opo (o_maxI rfl (v := .int .i64 ((all.length - 8 : Nat) : Int)) (by simp only [aext, foldI, if_true, Option.map_some]; congr 2; split <;> omega)) rfl rfl rfl rfl ?_
  refine tl_opo (o_move rfl) rfl rfl rfl rfl ?_; refine tl_nil ?_
  refine tc_seq (tc_skip ?_)
  refine tc_cut (σ := Unit) (fun _ => [(2, .ptr 0 0 0), (3, .ptr 1 0 0), (4, .ptr 2 0 0), (13, .bool (decide (lb l i.new = l.length))), (14, .int .i64 (cutAt all i.throw))])
    (fun _ S => S[0]? = some (some ⟨2, [[ruleV, .view 7 0 all.length false]]⟩) ∧ (∃ r, S[2]? = some (some ⟨2, [r]⟩) ∧ r.length = 2) ∧ S[7]? = some (some ⟨2, encS all⟩)) ?_ ?_
  · refine tc_seq (tc_ops ?_)
    refine tl_opo (o_faddr rfl) rfl rfl rfl rfl ?_; refine tl_opo (o_load rfl rfl rfl (Nat.le_of_ble_eq_true rfl) rfl) rfl rfl rfl rfl ?_; refine tl_opo (o_len_view rfl) rfl rfl rfl rfl ?_; refine tl_opo (o_move rfl) rfl rfl rfl rfl ?_; refine tl_nil ?_
    refine tc_block (loop_st (σ := Nat) (fun k => all.length - k) (fun k => [(2, .ptr 0 0 0), (3, .ptr 1 0 0), (4, .ptr 2 0 0), (13, .bool (decide (lb l i.new = l.length))), (14, .int .i64 ((max (all.length - 8) (min k (all.length - 1)) : Nat) : Int)), (90, .view 7 0 all.length false), (91, .int .i64 all.length), (92, .int .i64 k)])
      (fun k S => k ≤ all.length ∧ (∀ j, (hj : j < all.length) → j < k → all[j].num < i.throw) ∧ S[0]? = some (some ⟨2, [[ruleV, .view 7 0 all.length false]]⟩) ∧ S[1]? = some (some ⟨5, [i.row]⟩) ∧ (∃ r, S[2]? = some (some ⟨2, [r]⟩) ∧ r.length = 2) ∧ S[7]? = some (some ⟨2, encS all⟩)) 0
      (by refine wk_cons rfl (wk_cons rfl (wk_cons rfl (wk_cons rfl (wk_cons (by simp [lkp, putM]) (wk_cons rfl (wk_cons rfl (wk_cons rfl wk_nil)))))))) ⟨Nat.zero_le _, fun j _ h => by omega, rfl, rfl, ⟨_, rfl, rfl⟩, rfl⟩ ?_)
    rintro k S ⟨hk, hlt, hS0, hS1, ⟨r2, hS2, hr2⟩, hS7⟩
    refine tc_seq (tc_ops ?_)
    refine tl_opo (o_lss rfl rfl) rfl rfl rfl rfl ?_; refine tl_nil ?_
    refine tc_seq (tc_cond rfl (fun h => tc_skip ?_) (fun h => tc_exit ?_))
    · have hk' : k < all.length := by simpa using h
      clear h
      have hrow : (encS all)[0 + k]? = some all[k].row := by rw [Nat.zero_add]; exact encS_get hk'
      have hS2l : 2 < S.length := (List.getElem?_eq_some_iff.1 hS2).1
      refine tc_seq (tc_block (tc_seq (tc_ops ?_)))
      refine tl_opo (o_move rfl) rfl rfl rfl rfl ?_
      refine tl_opo (o_iaddr_view rfl rfl hk' hS7 rfl) rfl rfl rfl rfl ?_
      refine tl_opo (o_load rfl hS7 hrow (Nat.le_of_ble_eq_true rfl) rfl) rfl rfl rfl rfl ?_
      refine tl_opn o_alloc rfl rfl rfl rfl ?_
      rw [set_snoc]
      refine tl_opo (o_move rfl) rfl rfl rfl rfl ?_
      refine tl_opo (o_store rfl rfl get_snoc rfl rfl rfl rfl (Nat.le_of_ble_eq_true rfl) rfl) rfl rfl rfl rfl ?_
      rw [set_snoc]
      refine tl_nil ?_
      generalize hT : S ++ [_] = T
      have hTX : T[S.length]? = some (some ⟨2, [all[k].row]⟩) := by rw [← hT]; exact get_snoc
      have hT0 : T[0]? = some (some ⟨2, [[ruleV, .view 7 0 all.length false]]⟩) := by rw [← hT]; exact get_app hS0
      have hT1 : T[1]? = some (some ⟨5, [i.row]⟩) := by rw [← hT]; exact get_app hS1
      have hT2 : T[2]? = some (some ⟨2, [r2]⟩) := by rw [← hT]; exact get_app hS2
      have hT7 : T[7]? = some (some ⟨2, encS all⟩) := by rw [← hT]; exact get_app hS7
      refine tc_block (tc_seq (tc_ops ?_))
      refine tl_opo (o_faddr rfl) rfl rfl rfl rfl ?_
      refine tl_opo (o_load rfl hTX rfl (Nat.le_of_ble_eq_true rfl) rfl) rfl rfl rfl rfl ?_
      refine tl_opo (o_faddr rfl) rfl rfl rfl rfl ?_
      refine tl_opo (o_load rfl hT1 rfl (Nat.le_of_ble_eq_true rfl) rfl) rfl rfl rfl rfl ?_
      by_cases hge : all[k].num ≥ i.throw
      · refine tl_opo (o_geq' rfl rfl (t := true) (by simpa using hge)) rfl rfl rfl rfl ?_
        refine tl_opo (o_move rfl) rfl rfl rfl rfl ?_; refine tl_nil ?_
        refine tc_cond rfl (fun _ => tc_exit ?_) (fun h => nomatch h)
        have hbel : below all i.throw = k := below_spec hk hlt (fun hj => by omega)
        refine ⟨(), ?_, hT0, ⟨r2, hT2, hr2⟩, hT7⟩
        have : cutAt all i.throw = max (all.length - 8) (min k (all.length - 1)) := by unfold cutAt; rw [hbel]
        rw [this]
        (repeat' (first | exact wk_nil | refine wk_cons rfl ?_))
      · refine tl_opo (o_geq' rfl rfl (t := false) (by simpa using hge)) rfl rfl rfl rfl ?_
        refine tl_opo (o_move rfl) rfl rfl rfl rfl ?_; refine tl_nil ?_
        refine tc_cond rfl (fun h => nomatch h) (fun _ => ?_)
        have hlt' : ∀ j, (hj : j < all.length) → j < k + 1 → all[j].num < i.throw := by
          intro j hj hjk
          rcases Nat.lt_or_ge j k with h | h
          · exact hlt j hj h
          · have : j = k := by omega
            subst this; omega
        refine tc_seq (tc_ops ?_)
        refine tl_opo (o_move rfl) rfl rfl rfl rfl ?_
        refine tl_opo (o_add rfl rfl (c := ((k + 1 : Nat) : Int)) (by simp) (by omega) (by omega)) rfl rfl rfl rfl ?_
        refine tl_opo (o_faddr rfl) rfl rfl rfl rfl ?_
        refine tl_opo (o_load rfl hT0 rfl (Nat.le_of_ble_eq_true rfl) rfl) rfl rfl rfl rfl ?_
        refine tl_opo (o_len_view rfl) rfl rfl rfl rfl ?_
        by_cases hk1 : k + 1 < all.length
        · refine tl_opo (o_lss' rfl rfl (t := true) (by simp; omega)) rfl rfl rfl rfl ?_
          refine tl_opo (o_move rfl) rfl rfl rfl rfl ?_; refine tl_nil ?_
          refine tc_cond rfl (fun _ => ?_) (fun h => nomatch h)
          refine tc_ops ?_
          refine tl_opo (o_move rfl) rfl rfl rfl rfl ?_; refine tl_opo (o_move rfl) rfl rfl rfl rfl ?_
          refine tl_opo (o_add rfl rfl (c := ((k + 1 : Nat) : Int)) (by simp) (by omega) (by omega)) rfl rfl rfl rfl ?_
          refine tl_opo (o_maxI rfl (v := .int .i64 ((max (all.length - 8) (min (k + 1) (all.length - 1)) : Nat) : Int)) (by simp only [aext, foldI, if_true, Option.map_some]; congr 2; split <;> omega)) rfl rfl rfl rfl ?_
          refine tl_opo (o_move rfl) rfl rfl rfl rfl ?_; refine tl_nil ?_
          refine tc_ops ?_
          refine tl_opo (o_add rfl rfl (c := ((k + 1 : Nat) : Int)) (by simp) (by omega) (by omega)) rfl rfl rfl rfl ?_
          refine tl_opo (o_move rfl) rfl rfl rfl rfl ?_; refine tl_nil ?_
          exact ⟨k + 1, by omega, by (repeat' (first | exact wk_nil | refine wk_cons rfl ?_)), by omega, hlt', hT0, hT1, ⟨r2, hT2, hr2⟩, hT7⟩
        · refine tl_opo (o_lss' rfl rfl (t := false) (by simp; omega)) rfl rfl rfl rfl ?_
          refine tl_opo (o_move rfl) rfl rfl rfl rfl ?_; refine tl_nil ?_
          refine tc_cond rfl (fun h => nomatch h) (fun _ => tc_skip ?_)
          refine tc_ops ?_
          refine tl_opo (o_add rfl rfl (c := ((k + 1 : Nat) : Int)) (by simp) (by omega) (by omega)) rfl rfl rfl rfl ?_
          refine tl_opo (o_move rfl) rfl rfl rfl rfl ?_; refine tl_nil ?_
          have : max (all.length - 8) (min (k + 1) (all.length - 1)) = max (all.length - 8) (min k (all.length - 1)) := by omega
          exact ⟨k + 1, by omega, by rw [this]; (repeat' (first | exact wk_nil | refine wk_cons rfl ?_)), by omega, hlt', hT0, hT1, ⟨r2, hT2, hr2⟩, hT7⟩
    · have hk' : all.length ≤ k := by simpa using h
      have hbel : below all i.throw = k := below_spec hk hlt (fun hj => by omega)
      refine ⟨(), ?_, hS0, ⟨r2, hS2, hr2⟩, hS7⟩
      have : cutAt all i.throw = max (all.length - 8) (min k (all.length - 1)) := by unfold cutAt; rw [hbel]
      rw [this]
      (repeat' (first | exact wk_nil | refine wk_cons rfl ?_))
  · rintro - S ⟨hS0, ⟨r2, hS2, hr2⟩, hS7⟩
    have hS7l : 7 < S.length := (List.getElem?_eq_some_iff.1 hS7).1
    have hcl : cutAt all i.throw ≤ all.length := by unfold cutAt; omega
    refine tc_seq (tc_ops ?_)
    refine tl_opo (o_faddr rfl) rfl rfl rfl rfl ?_
    refine tl_opo (o_load rfl hS0 rfl (Nat.le_of_ble_eq_true rfl) rfl) rfl rfl rfl rfl ?_
    refine tl_opo (o_move rfl) rfl rfl rfl rfl ?_
    refine tl_opo (o_slice_view (lo' := cutAt all i.throw) (hi' := all.length) (rows := encS all) rfl hS7 (by simp) (loIs_some rfl) loIs_none hcl (by simp)) rfl rfl rfl rfl ?_
    refine tl_opo (o_faddr rfl) rfl rfl rfl rfl ?_
    refine tl_opo (o_store rfl rfl hS0 rfl rfl rfl rfl (Nat.le_of_ble_eq_true rfl) rfl) rfl rfl rfl rfl ?_
    refine tl_nil ?_
    generalize hT : S.set 0 _ = T
    have hT0 : T[0]? = some (some ⟨2, [[ruleV, .view 7 (cutAt all i.throw) (all.length - cutAt all i.throw) false]]⟩) := by rw [← hT, set_get, if_pos ⟨rfl, by omega⟩]; rfl
    have hT2 : T[2]? = some (some ⟨2, [r2]⟩) := by rw [← hT, set_get, if_neg (by omega)]; exact hS2
    have hT7 : T[7]? = some (some ⟨2, encS all⟩) := by rw [← hT, set_get, if_neg (by omega)]; exact hS7
    refine tc_seq (tc_ops ?_)
    refine tl_opo (o_load rfl hT0 rfl (Nat.le_of_ble_eq_true rfl) rfl) rfl rfl rfl rfl ?_
    refine tl_opo (o_move rfl) rfl rfl rfl rfl ?_
    refine tl_opo (o_store rfl rfl hT2 rfl rfl rfl rfl (by rw [hr2]; exact Nat.le_of_ble_eq_true rfl) rfl) rfl rfl rfl rfl ?_
    generalize hU : T.set 2 _ = U
    have hd2 : r2.drop (0 + 2) = [] := List.drop_eq_nil_of_le (by omega)
    have hU2 : U[2]? = some (some ⟨2, [[ruleV, .view 7 (cutAt all i.throw) (all.length - cutAt all i.throw) false]]⟩) := by
      rw [← hU, set_get, if_pos ⟨rfl, (List.getElem?_eq_some_iff.1 hT2).1⟩]
      simp only [acells, List.take_zero, List.nil_append, List.length_cons, List.length_nil, List.set_cons_zero]
      simp [hr2]
    have hU7 : U[7]? = some (some ⟨2, encS all⟩) := by rw [← hU, set_get, if_neg (by omega)]; exact hT7
    clear hU hT
    refine tl_opo (o_move rfl) rfl rfl rfl rfl ?_; refine tl_opo (o_move rfl) rfl rfl rfl rfl ?_; refine tl_nil ?_
    refine tc_ret (retd (resL_cons (cell_res rfl hU2 rfl (Nat.le_of_ble_eq_true rfl) rfl) (resL_cons rfl (resL_cons rfl rfl))) ?_)
    refine frz_tuple (n := 5) (mapL_cons (frz_agg (n := 4) (mapL_cons ⟨_, frz_ok rfl⟩ (mapL_cons ⟨_, frz_view hU7 (by simp; omega) ?_ (encS_closed _)⟩ ⟨_, rfl⟩))) (mapL_cons ⟨_, frz_ok rfl⟩ (mapL_cons ⟨_, frz_ok rfl⟩ ⟨_, rfl⟩)))
    rw [List.take_of_length_le (by simp)]
    simp [encS, List.map_drop]

end Go.Eng.Recv

/- What taking an instruction does, in plain words. -/
namespace Go.Eng.Recv
open Go Go.Eng

theorem takeWhile_spec {p : Sta → Bool} : ∀ (l : List Sta), (∀ j, (hj : j < l.length) → j < (l.takeWhile p).length → p l[j] = true) ∧ (∀ (h : (l.takeWhile p).length < l.length), p l[(l.takeWhile p).length] = false)
  | [] => ⟨fun j hj => by simp at hj, fun h => by simp at h⟩
  | x :: l => by
    obtain ⟨h1, h2⟩ := takeWhile_spec (p := p) l
    by_cases hx : p x = true
    · rw [List.takeWhile_cons_of_pos hx]
      refine ⟨fun j hj hjl => ?_, fun h => ?_⟩
      · cases j with
        | zero => exact hx
        | succ j => exact h1 j (by simpa using hj) (by simpa using hjl)
      · simp only [List.length_cons] at h ⊢
        exact h2 (by omega)
    · rw [List.takeWhile_cons_of_neg hx]
      refine ⟨fun j hj hjl => by simp at hjl, fun h => ?_⟩
      simpa using hx

theorem lb_lt {l : List Sta} {n : Int} {j : Nat} (hj : j < l.length) (h : j < lb l n) : l[j].num < n := by
  have := (takeWhile_spec (p := fun s => decide (s.num < n)) l).1 j hj h
  simpa using this
theorem lb_not {l : List Sta} {n : Int} (h : lb l n < l.length) : n ≤ l[lb l n].num := by
  have := (takeWhile_spec (p := fun s => decide (s.num < n)) l).2 h
  have : ¬ l[lb l n].num < n := of_decide_eq_false this
  omega
theorem lb_ge {l : List Sta} {n : Int} (hr : Rises l) {j : Nat} (hj : j < l.length) (h : lb l n ≤ j) : n ≤ l[j].num := by
  have h1 := lb_not (n := n) (l := l) (by omega)
  rcases Nat.lt_or_ge (lb l n) j with h2 | h2
  · have := hr _ _ h2 hj; omega
  · have : j = lb l n := by omega
    subst this; exact h1

theorem found_iff {l : List Sta} {n : Int} (hr : Rises l) : found l n = true ↔ ∃ s ∈ l, s.num = n := by
  constructor
  · intro h
    exact ⟨_, List.getElem_mem (found_lt h), by rw [found_num h]⟩
  · rintro ⟨s, hs, rfl⟩
    obtain ⟨j, hj, rfl⟩ := List.getElem_of_mem hs
    have h1 : lb l l[j].num = j := lb_spec (by omega) (fun k hk hkj => hr k j hkj hj) (fun _ => by omega)
    unfold found
    rw [h1, List.getElem?_eq_getElem hj]
    simp
theorem found_mem {l : List Sta} {n : Int} (h : found l n = true) : ⟨n, ofTx l n⟩ ∈ l := by
  rw [ofTx_found h, ← found_num h]
  exact List.getElem_mem _
theorem ofTx_mem {l : List Sta} {s : Sta} (hr : Rises l) (hs : s ∈ l) : found l s.num = true ∧ ofTx l s.num = s.tx := by
  have hf : found l s.num = true := (found_iff hr).2 ⟨s, hs, rfl⟩
  obtain ⟨j, hj, rfl⟩ := List.getElem_of_mem hs
  have h1 : lb l l[j].num = j := lb_spec (by omega) (fun k hk hkj => hr k j hkj hj) (fun _ => by omega)
  refine ⟨hf, ?_⟩
  rw [ofTx_found hf]
  simp only [h1]

theorem rises_drop {l : List Sta} (h : Rises l) (k : Nat) : Rises (l.drop k) := by
  intro i j hij hj
  simp only [List.getElem_drop]
  exact h _ _ (by omega) (by simp at hj; omega)
theorem rises_iff (l : List Sta) : Rises l ↔ l.Pairwise fun a b => a.num < b.num := by
  rw [List.pairwise_iff_getElem]
  constructor
  · intro h i j hi hj hij; exact h i j hij hj
  · intro h i j hij hj; exact h i j (by omega) hj hij
theorem rises_ins {l : List Sta} {n : Int} {v : List UInt8} (h : Rises l) (hf : found l n = false) : Rises (insL l n v) := by
  have hlt : ∀ s ∈ l.take (lb l n), s.num < n := by
    intro s hs
    obtain ⟨j, hj, rfl⟩ := List.getElem_of_mem hs
    rw [List.getElem_take]
    have : j < lb l n := by simp at hj; omega
    exact lb_lt _ this
  have hgt : ∀ s ∈ l.drop (lb l n), n < s.num := by
    intro s hs
    obtain ⟨j, hj, rfl⟩ := List.getElem_of_mem hs
    rw [List.getElem_drop]
    have hj' : lb l n + j < l.length := by simp at hj; omega
    have h1 := lb_ge (n := n) h hj' (by omega)
    have h2 : l[lb l n + j].num ≠ n := fun he => by
      have := (found_iff h).2 ⟨_, List.getElem_mem hj', he⟩
      rw [hf] at this; cases this
    omega
  rw [rises_iff] at h ⊢
  unfold insL
  rw [List.pairwise_append]
  refine ⟨h.sublist (List.take_sublist _ _), ?_, ?_⟩
  · rw [List.pairwise_cons]
    exact ⟨hgt, h.sublist (List.drop_sublist _ _)⟩
  · intro a ha b hb
    rcases List.mem_cons.1 hb with rfl | hb
    · exact hlt a ha
    · have := hlt a ha; have := hgt b hb; omega

theorem cutAt_lt {l : List Sta} (t : Int) (h : 0 < l.length) : cutAt l t < l.length := by unfold cutAt; omega
theorem cut_len (l : List Sta) (t : Int) : (l.drop (cutAt l t)).length ≤ 8 := by
  rw [List.length_drop]; unfold cutAt; omega

theorem mem_insL {l : List Sta} {n : Int} {v : List UInt8} {s : Sta} : s ∈ insL l n v ↔ s = ⟨n, v⟩ ∨ s ∈ l := by
  unfold insL
  rw [List.mem_append, List.mem_cons]
  have : s ∈ l ↔ s ∈ l.take (lb l n) ∨ s ∈ l.drop (lb l n) := by
    rw [← List.mem_append, List.take_append_drop]
  rw [this]
  constructor
  · rintro (h | h | h)
    · exact .inr (.inl h)
    · exact .inl h
    · exact .inr (.inr h)
  · rintro (h | h | h)
    · exact .inr (.inl h)
    · exact .inl h
    · exact .inr (.inr h)

/-- what is taken, and what isn't -/
theorem takeR_cases (l : List Sta) (i : Ins) : (found l i.new = true ∧ takeR l i = (l, false, 11)) ∨ (found l i.new = false ∧ ∃ e, e ≠ 0 ∧ e ≠ 11 ∧ takeR l i = (l, false, e)) ∨
    (found l i.new = false ∧ ¬ i.new < (l.headD ⟨0, []⟩).num ∧ found l i.old = true ∧ i.old < i.new ∧ ∃ v, doR (ofTx l i.old) i.diff = some v ∧ takeR l i = ((insL l i.new v).drop (cutAt (insL l i.new v) i.throw), decide (lb l i.new = l.length), 0)) := by
  unfold takeR
  cases hf : found l i.new with
  | true => exact .inl ⟨rfl, by simp⟩
  | false =>
    rw [if_neg (by simp)]
    refine .inr ?_
    split
    · exact .inl ⟨rfl, 9, by decide, by decide, rfl⟩
    · rename_i h9
      split
      · exact .inl ⟨rfl, 19, by decide, by decide, rfl⟩
      · rename_i h19
        cases hd : doR (ofTx l i.old) i.diff with
        | none => exact .inl ⟨rfl, 4, by decide, by decide, rfl⟩
        | some v =>
          refine .inr ⟨rfl, h9, ?_, ?_, v, rfl, rfl⟩
          · cases h : found l i.old with
            | true => rfl
            | false => exact absurd (.inl h) h19
          · have : ¬ i.old ≥ i.new := fun h => h19 (.inr h)
            omega

theorem doR_len {a d v : List UInt8} (h : doR a d = some v) : v = a ++ d := by
  unfold doR at h
  split at h
  · split at h
    · cases h
    · simpa using h.symm
  · simpa using h.symm

/-- what holds of the states, and goes on to hold -/
structure Ok (l : List Sta) (B : Nat) : Prop where
  ne : l ≠ []
  len : l.length ≤ 8
  rises : Rises l
  tx : ∀ s ∈ l, s.tx.length ≤ B

theorem Ok.take {l : List Sta} {B : Nat} (h : Ok l B) (i : Ins) : Ok (takeR l i).1 (B + i.diff.length) := by
  have h0 : Ok l (B + i.diff.length) := ⟨h.ne, h.len, h.rises, fun s hs => by have := h.tx s hs; omega⟩
  rcases takeR_cases l i with ⟨_, h1⟩ | ⟨_, e, _, _, h1⟩ | ⟨hf, _, ho, _, v, hv, h1⟩
  · rw [h1]; exact h0
  · rw [h1]; exact h0
  · rw [h1]
    have hlen := insL_len l i.new v
    refine ⟨?_, cut_len _ _, rises_drop (rises_ins h.rises hf) _, ?_⟩
    · intro he
      have := congrArg List.length he
      have := cutAt_lt (l := insL l i.new v) i.throw (by omega)
      simp at *; omega
    · intro s hs
      rcases mem_insL.1 (List.mem_of_mem_drop hs) with rfl | hs
      · have e := doR_len hv
        have := h.tx _ (found_mem ho)
        simp only at this
        rw [e]; simp; omega
      · have := h.tx s hs; omega

/-- what was taken as the last -/
theorem takeR_last {l : List Sta} {i : Ins} (hr : Rises l) (h0 : (takeR l i).2.2 = 0) (hl : (takeR l i).2.1 = true) : ∃ v l', (takeR l i).1 = l' ++ [⟨i.new, v⟩] ∧ found (takeR l i).1 i.new = true := by
  rcases takeR_cases l i with ⟨_, h1⟩ | ⟨_, e, he, _, h1⟩ | ⟨hf, _, ho, _, v, hv, h1⟩
  · rw [h1] at h0; cases h0
  · rw [h1] at h0; exact absurd h0 he
  · rw [h1] at hl ⊢
    have hlb : lb l i.new = l.length := by simpa using hl
    have e : insL l i.new v = l ++ [⟨i.new, v⟩] := by unfold insL; rw [hlb]; simp
    have hlen := insL_len l i.new v
    have hc := cutAt_lt (l := insL l i.new v) i.throw (by omega)
    have e2 : (insL l i.new v).drop (cutAt (insL l i.new v) i.throw) = l.drop (cutAt (insL l i.new v) i.throw) ++ [⟨i.new, v⟩] := by
      rw [e] at hc ⊢
      rw [List.drop_append_of_le_length (by simp at hc; omega)]
    refine ⟨v, _, e2, ?_⟩
    simp only
    exact (found_iff (rises_drop (rises_ins hr hf) _)).2 ⟨⟨i.new, v⟩, by rw [e2]; simp, rfl⟩

end Go.Eng.Recv

/- ReceiverTwice: what the machine answers. -/
namespace Go.Eng.Recv
open Go Go.Eng
attribute [local irreducible] OpR TL TD TC CallR

theorem rule0_ok : CallR AP 32 [] (.agg [ruleV]) := callR_at 20 (by kernel_rfl)

theorem new_ok (first : List UInt8) : CallR AP 31 [.str first, .agg [ruleV]] (recvV [⟨0, first⟩]) := by
  refine callR_of (af := c31) rfl rfl ?_
  refine tc_seq (tc_ops ?_)
  refine tl_opn (o_box rfl rfl rfl rfl) rfl rfl rfl rfl ?_; refine tl_opn o_alloc rfl rfl rfl rfl ?_; refine tl_nil ?_
  dsimp only [putM, initM, acells, effS, List.nil_append, List.cons_append, List.length_nil, List.length_cons, List.set_cons_zero, List.set_cons_succ, List.set_nil, List.append_nil, Nat.zero_add, Nat.add_zero, Nat.reduceAdd, List.replicate, nslots]
  refine tc_seq (tc_ops ?_)
  refine tl_opo (o_load rfl rfl rfl (Nat.le_of_ble_eq_true rfl) rfl) rfl rfl rfl rfl ?_; refine tl_opo (o_move rfl) rfl rfl rfl rfl ?_; refine tl_opo (o_build rfl rfl) rfl rfl rfl rfl ?_; refine tl_opo (o_buildSlice rfl rfl) rfl rfl rfl rfl ?_; refine tl_opo (o_build rfl rfl) rfl rfl rfl rfl ?_; refine tl_opo (o_store rfl rfl rfl rfl rfl rfl rfl (Nat.le_of_ble_eq_true rfl) rfl) rfl rfl rfl rfl ?_; refine tl_nil ?_
  dsimp only [putM, initM, acells, effS, List.nil_append, List.cons_append, List.length_nil, List.length_cons, List.set_cons_zero, List.set_cons_succ, List.set_nil, List.append_nil, Nat.zero_add, Nat.add_zero, Nat.reduceAdd, List.replicate, nslots]
  refine tc_ret (retd rfl ?_)
  refine frz_agg (n := 5) (mapL_cons ⟨_, frz_ok rfl⟩ (mapL_cons ⟨_, frz_lim rfl⟩ ⟨_, rfl⟩))

def encI (l : List Ins) : List (List AVal) := l.map Ins.row
@[simp] theorem encI_len (l : List Ins) : (encI l).length = l.length := by simp [encI]
theorem encI_get {l : List Ins} {i : Nat} (h : i < l.length) : (encI l)[i]? = some l[i].row := by simp [encI, h]

theorem ok_new {first : List UInt8} (h : first.length ≤ 60) : Ok [⟨0, first⟩] 60 :=
  ⟨by simp, by simp, fun i j hij hj => by simp at hj; omega, fun s hs => by simp at hs; subst hs; exact h⟩

theorem twice_ok (first : List UInt8) (script : List Ins) : CallR AP 10 [.str first, .imm (encI script)] (.bool true) := by
  refine callR_of (af := c10) rfl rfl ?_
  refine tc_seq (tc_ops ?_)
  refine tl_opo (o_move rfl) rfl rfl rfl rfl ?_; refine tl_nil ?_
  refine tc_seq (tc_seq (tc_ops ?_))
  refine tl_call' (as := []) (as' := []) rfl frzL_nil awake_ok rfl rfl rfl rfl rfl ?_
  refine tl_opo (o_un rfl rfl) rfl rfl rfl rfl ?_; refine tl_nil ?_
  refine tc_cond rfl (fun h => nomatch h) (fun _ => tc_skip ?_)
  refine tc_seq (tc_seq (tc_ops ?_))
  refine tl_opo (o_move rfl) rfl rfl rfl rfl ?_; refine tl_opo (o_len_imm rfl) rfl rfl rfl rfl ?_
  by_cases hn : script.length ≤ 40
  case neg =>
    refine tl_opo (o_gtr' rfl rfl (t := true) (by simp; omega)) rfl rfl rfl rfl ?_
    refine tl_opo (o_move rfl) rfl rfl rfl rfl ?_; refine tl_off0 rfl rfl rfl ?_; refine tl_off0 rfl rfl rfl ?_; refine tl_off0 rfl rfl rfl ?_; refine tl_opo (o_pick rfl rfl rfl) rfl rfl rfl rfl ?_; refine tl_nil ?_
    refine tc_cond rfl (fun _ => ?_) (fun h => nomatch h)
    refine tc_seq (tc_ops ?_)
    refine tl_opo (o_move rfl) rfl rfl rfl rfl ?_; refine tl_nil ?_
    exact tc_ret (retd rfl ⟨_, frz_ok rfl⟩)
  refine tl_opo (o_gtr' rfl rfl (t := false) (by simp; omega)) rfl rfl rfl rfl ?_
  refine tl_opo (o_move rfl) rfl rfl rfl rfl ?_; refine tl_opo (o_move rfl) rfl rfl rfl rfl ?_
  refine tl_opo (o_len_str rfl) rfl rfl rfl rfl ?_
  by_cases hfl : first.length ≤ 60
  case neg =>
    refine tl_opo (o_gtr' rfl rfl (t := true) (by simp; omega)) rfl rfl rfl rfl ?_
    refine tl_opo (o_pick rfl rfl rfl) rfl rfl rfl rfl ?_; refine tl_nil ?_
    refine tc_cond rfl (fun _ => ?_) (fun h => nomatch h)
    refine tc_seq (tc_ops ?_)
    refine tl_opo (o_move rfl) rfl rfl rfl rfl ?_; refine tl_nil ?_
    exact tc_ret (retd rfl ⟨_, frz_ok rfl⟩)
  refine tl_opo (o_gtr' rfl rfl (t := false) (by simp; omega)) rfl rfl rfl rfl ?_
  refine tl_opo (o_pick rfl rfl rfl) rfl rfl rfl rfl ?_; refine tl_nil ?_
  refine tc_cond rfl (fun h => nomatch h) (fun _ => tc_skip ?_)
  refine tc_seq (tc_ops ?_)
  refine tl_opo (o_move rfl) rfl rfl rfl rfl ?_
  refine tl_call' (as := []) (as' := []) rfl frzL_nil rule0_ok rfl rfl rfl rfl rfl ?_
  refine tl_call' (as := [.str first, .agg [ruleV]]) (as' := [.str first, .agg [ruleV]]) rfl (frzL_cons (fun n => ⟨_, frz_ok rfl⟩) (frzL_cons (fun n => ⟨_, frz_ok rfl⟩) frzL_nil)) (new_ok first) rfl rfl rfl rfl rfl ?_
  refine tl_opn o_alloc rfl rfl rfl rfl ?_; refine tl_opo (o_store rfl rfl rfl rfl rfl rfl rfl (Nat.le_of_ble_eq_true rfl) rfl) rfl rfl rfl rfl ?_; refine tl_nil ?_
  dsimp only [putM, initM, acells, effS, List.nil_append, List.cons_append, List.length_nil, List.length_cons, List.set_cons_zero, List.set_cons_succ, List.set_nil, List.append_nil, Nat.zero_add, Nat.add_zero, Nat.reduceAdd, List.replicate, nslots]
  refine tc_seq (tc_seq (tc_ops ?_))
  refine tl_opo (o_move rfl) rfl rfl rfl rfl ?_; refine tl_opo (o_len_imm rfl) rfl rfl rfl rfl ?_; refine tl_opo (o_move rfl) rfl rfl rfl rfl ?_; refine tl_nil ?_
  refine tc_block (loop_st (σ := Nat × List Sta) (fun s => script.length - s.1) (fun s => [(5, .ptr 3 0 0), (31, .imm (encI script)), (32, .int .i64 (encI script).length), (33, .int .i64 s.1)])
    (fun s S => s.1 ≤ script.length ∧ Ok s.2 (60 + 60 * s.1) ∧ S[3]? = some (some ⟨2, [[ruleV, .imm (encS s.2)]]⟩)) (0, [⟨0, first⟩]) (by (repeat' (first | exact wk_nil | refine wk_cons rfl ?_))) ⟨Nat.zero_le _, ok_new hfl, rfl⟩ ?_)
  rintro ⟨i, l⟩ S ⟨hi, hok, hS⟩
  simp only at hi hok hS
  refine tc_seq (tc_ops ?_)
  refine tl_opo (o_lss rfl rfl) rfl rfl rfl rfl ?_; refine tl_nil ?_
  refine tc_seq (tc_cond rfl (fun h => tc_skip ?_) (fun h => tc_exit ?_))
  · have hi' : i < script.length := by simpa using h
    clear h
    generalize hact : script[i] = act
    have hrow : (encI script)[i]? = some act.row := by rw [encI_get hi', hact]
    refine tc_seq (tc_block (tc_seq (tc_ops ?_)))
    refine tl_opo (o_iaddr rfl rfl hrow rfl) rfl rfl rfl rfl ?_
    refine tl_opo (o_loadr rfl (Nat.le_of_ble_eq_true rfl) rfl) rfl rfl rfl rfl ?_
    refine tl_opn o_alloc rfl rfl rfl rfl ?_
    rw [set_snoc]
    refine tl_opo (o_store rfl rfl get_snoc rfl rfl rfl rfl (Nat.le_of_ble_eq_true rfl) rfl) rfl rfl rfl rfl ?_
    rw [set_snoc]
    refine tl_nil ?_
    generalize hT : S ++ [_] = T
    have hTX : T[S.length]? = some (some ⟨5, [act.row]⟩) := by rw [← hT]; exact get_snoc
    have hT3 : T[3]? = some (some ⟨2, [[ruleV, .imm (encS l)]]⟩) := by rw [← hT]; exact get_app hS
    clear hT
    have hS3 : 3 < S.length := (List.getElem?_eq_some_iff.1 hS).1
    clear hS
    generalize S.length = n7 at hTX hS3
    clear S
    refine tc_seq (tc_seq (tc_ops ?_))
    refine tl_opo (o_faddr rfl) rfl rfl rfl rfl ?_
    refine tl_opo (o_load rfl hTX rfl (Nat.le_of_ble_eq_true rfl) rfl) rfl rfl rfl rfl ?_
    refine tl_opo (o_len_str rfl) rfl rfl rfl rfl ?_
    by_cases hdl : act.diff.length ≤ 60
    case neg =>
      refine tl_opo (o_gtr' rfl rfl (t := true) (by simp; omega)) rfl rfl rfl rfl ?_
      refine tl_nil ?_
      refine tc_cond rfl (fun _ => ?_) (fun h => nomatch h)
      refine tc_seq (tc_ops ?_)
      refine tl_opo (o_move rfl) rfl rfl rfl rfl ?_; refine tl_nil ?_
      exact tc_ret (retd rfl ⟨_, frz_ok rfl⟩)
    refine tl_opo (o_gtr' rfl rfl (t := false) (by simp; omega)) rfl rfl rfl rfl ?_
    refine tl_nil ?_
    refine tc_cond rfl (fun h => nomatch h) (fun _ => tc_skip ?_)
    have hcall := take_ok l act hok.ne (by have := hok.len; omega) hok.rises (fun s hs => by have := hok.tx s hs; omega)
    have hok' := hok.take act
    have hlast := takeR_last (l := l) (i := act) hok.rises
    obtain ⟨l', last, e, htk⟩ : ∃ l' last e, takeR l act = (l', last, e) := ⟨_, _, _, rfl⟩
    rw [htk] at hcall hok' hlast
    simp only at hcall hok' hlast
    refine tc_seq (tc_ops ?_)
    refine tl_opo (o_load rfl hT3 rfl (Nat.le_of_ble_eq_true rfl) rfl) rfl rfl rfl rfl ?_
    refine tl_opo (o_load rfl hTX rfl (Nat.le_of_ble_eq_true rfl) rfl) rfl rfl rfl rfl ?_
    refine tl_call' (as := [recvV l, .agg act.row]) (as' := [recvV l, .agg act.row]) rfl (frzL_cons (fun n => ⟨_, frz_ok (recvV_closed l)⟩) (frzL_cons (fun n => ⟨_, frz_ok rfl⟩) frzL_nil))
      hcall (by simp [norefL, AVal.noref, Ins.row]) rfl rfl rfl rfl ?_
    refine tl_opo (o_move rfl) rfl rfl rfl rfl ?_; refine tl_opo (o_extract rfl rfl) rfl rfl rfl rfl ?_; refine tl_opo (o_extract rfl rfl) rfl rfl rfl rfl ?_; refine tl_opo (o_extract rfl rfl) rfl rfl rfl rfl ?_
    generalize hU : T ++ [none] = U
    have hUX : U[n7]? = some (some ⟨5, [act.row]⟩) := by rw [← hU]; exact get_app hTX
    have hU3 : U[3]? = some (some ⟨2, [[ruleV, .imm (encS l)]]⟩) := by rw [← hU]; exact get_app hT3
    have hTU : U.length = T.length + 1 := by rw [← hU]; simp
    have hnT : n7 < T.length := (List.getElem?_eq_some_iff.1 hTX).1
    clear hU hTX hT3
    refine tl_opn o_alloc rfl rfl rfl rfl ?_
    rw [set_snoc]
    refine tl_opo (o_store rfl rfl get_snoc rfl rfl rfl rfl (Nat.le_of_ble_eq_true rfl) rfl) rfl rfl rfl rfl ?_
    rw [set_snoc]
    refine tl_opo (o_move rfl) rfl rfl rfl rfl ?_; refine tl_opo (o_move rfl) rfl rfl rfl rfl ?_; refine tl_nil ?_
    generalize hV : U ++ [_] = V
    have hVX : V[n7]? = some (some ⟨5, [act.row]⟩) := by rw [← hV]; exact get_app hUX
    have hV3 : V[3]? = some (some ⟨2, [[ruleV, .imm (encS l)]]⟩) := by rw [← hV]; exact get_app hU3
    have hVY : V[U.length]? = some (some ⟨2, [[ruleV, .imm (encS l')]]⟩) := by rw [← hV]; exact get_snoc
    have hn8 : 3 < U.length := by omega
    have hn78 : n7 ≠ U.length := by omega
    clear hV hUX hU3 hTU hnT
    generalize U.length = n8 at hVY hn8 hn78
    clear T U
    refine tc_cut (σ := Unit) (fun _ => [(5, .ptr 3 0 0), (8, .ptr n8 0 0), (31, .imm (encI script)), (32, .int .i64 (encI script).length), (33, .int .i64 i)])
      (fun _ S => S[3]? = some (some ⟨2, [[ruleV, .imm (encS l)]]⟩) ∧ S[n8]? = some (some ⟨2, [[ruleV, .imm (encS l')]]⟩)) ?_ ?_
    · refine tc_seq (tc_ops ?_)
      refine tl_opo (o_move rfl) rfl rfl rfl rfl ?_
      by_cases he : e = 0
      · subst he
        refine tl_opo (o_eql' rfl rfl (t := true) rfl) rfl rfl rfl rfl ?_
        refine tl_opo (o_move rfl) rfl rfl rfl rfl ?_; refine tl_opo (o_move rfl) rfl rfl rfl rfl ?_
        cases last with
        | false =>
          refine tl_opo (o_pick rfl rfl rfl) rfl rfl rfl rfl ?_; refine tl_nil ?_
          refine tc_cond rfl (fun h => nomatch h) (fun _ => tc_skip ?_)
          exact ⟨(), by (repeat' (first | exact wk_nil | refine wk_cons rfl ?_)), hV3, hVY⟩
        | true =>
          refine tl_opo (o_pick rfl rfl rfl) rfl rfl rfl rfl ?_; refine tl_nil ?_
          refine tc_cond rfl (fun _ => ?_) (fun h => nomatch h)
          obtain ⟨v, l2, hl2, hf⟩ := hlast rfl rfl
          have htk2 : takeR l' act = (l', false, 11) := by unfold takeR; rw [if_pos hf]
          have hcall2 := take_ok l' act hok'.ne (by have := hok'.len; omega) hok'.rises (fun s hs => by have := hok'.tx s hs; omega)
          rw [htk2] at hcall2
          simp only at hcall2
          refine tc_seq (tc_ops ?_)
          refine tl_opo (o_load rfl hVY rfl (Nat.le_of_ble_eq_true rfl) rfl) rfl rfl rfl rfl ?_
          refine tl_opo (o_load rfl hVX rfl (Nat.le_of_ble_eq_true rfl) rfl) rfl rfl rfl rfl ?_
          refine tl_call' (as := [recvV l', .agg act.row]) (as' := [recvV l', .agg act.row]) rfl (frzL_cons (fun n => ⟨_, frz_ok (recvV_closed l')⟩) (frzL_cons (fun n => ⟨_, frz_ok rfl⟩) frzL_nil))
            hcall2 (by simp [norefL, AVal.noref, Ins.row]) rfl rfl rfl rfl ?_
          refine tl_opo (o_move rfl) rfl rfl rfl rfl ?_; refine tl_opo (o_extract rfl rfl) rfl rfl rfl rfl ?_; refine tl_opo (o_extract rfl rfl) rfl rfl rfl rfl ?_; refine tl_opo (o_extract rfl rfl) rfl rfl rfl rfl ?_
          generalize hW : V ++ [none] = W
          have hWX : W[n7]? = some (some ⟨5, [act.row]⟩) := by rw [← hW]; exact get_app hVX
          have hW3 : W[3]? = some (some ⟨2, [[ruleV, .imm (encS l)]]⟩) := by rw [← hW]; exact get_app hV3
          have hWY : W[n8]? = some (some ⟨2, [[ruleV, .imm (encS l')]]⟩) := by rw [← hW]; exact get_app hVY
          clear hW
          refine tl_opn o_alloc rfl rfl rfl rfl ?_
          rw [set_snoc]
          refine tl_opo (o_store rfl rfl get_snoc rfl rfl rfl rfl (Nat.le_of_ble_eq_true rfl) rfl) rfl rfl rfl rfl ?_
          rw [set_snoc]
          refine tl_opo (o_move rfl) rfl rfl rfl rfl ?_; refine tl_opo (o_move rfl) rfl rfl rfl rfl ?_; refine tl_nil ?_
          generalize hX : W ++ [_] = X
          have hXX : X[n7]? = some (some ⟨5, [act.row]⟩) := by rw [← hX]; exact get_app hWX
          have hX3 : X[3]? = some (some ⟨2, [[ruleV, .imm (encS l)]]⟩) := by rw [← hX]; exact get_app hW3
          have hXY : X[n8]? = some (some ⟨2, [[ruleV, .imm (encS l')]]⟩) := by rw [← hX]; exact get_app hWY
          have hXZ : X[W.length]? = some (some ⟨2, [[ruleV, .imm (encS l')]]⟩) := by rw [← hX]; exact get_snoc
          clear hX
          have hlen' : l'.length = l2.length + 1 := by rw [hl2]; simp
          have hlt := latest_ok l' l2.length hlen' (by have := hok'.len; omega)
          have hg : l'[l2.length]'(by omega) = ⟨act.new, v⟩ := by simp [hl2]
          rw [hg] at hlt
          simp only at hlt
          refine tc_seq (tc_ops ?_)
          refine tl_opo (o_load rfl hXZ rfl (Nat.le_of_ble_eq_true rfl) rfl) rfl rfl rfl rfl ?_
          refine tl_call' (as := [recvV l']) (as' := [recvV l']) rfl (frzL_cons (fun n => ⟨_, frz_ok (recvV_closed l')⟩) frzL_nil)
            hlt (by simp [norefL, AVal.noref]) rfl rfl rfl rfl ?_
          refine tl_opo (o_move rfl) rfl rfl rfl rfl ?_; refine tl_opo (o_extract rfl rfl) rfl rfl rfl rfl ?_; refine tl_opo (o_extract rfl rfl) rfl rfl rfl rfl ?_; refine tl_opo (o_move rfl) rfl rfl rfl rfl ?_; refine tl_opo (o_move rfl) rfl rfl rfl rfl ?_; refine tl_nil ?_
          refine tc_seq (tc_ops ?_)
          refine tl_opo (o_load rfl (get_app hXY) rfl (Nat.le_of_ble_eq_true rfl) rfl) rfl rfl rfl rfl ?_
          refine tl_call' (as := [recvV l']) (as' := [recvV l']) rfl (frzL_cons (fun n => ⟨_, frz_ok (recvV_closed l')⟩) frzL_nil)
            hlt (by simp [norefL, AVal.noref]) rfl rfl rfl rfl ?_
          refine tl_opo (o_move rfl) rfl rfl rfl rfl ?_; refine tl_opo (o_extract rfl rfl) rfl rfl rfl rfl ?_; refine tl_opo (o_extract rfl rfl) rfl rfl rfl rfl ?_; refine tl_opo (o_move rfl) rfl rfl rfl rfl ?_; refine tl_opo (o_move rfl) rfl rfl rfl rfl ?_; refine tl_nil ?_
          have hnum := numbers_ok l' (by have := hok'.len; omega)
          have heq := equalN_ok (nums l') (nums l') (by have := hok'.len; simp; omega)
          rw [decide_eq_true rfl] at heq
          refine tc_seq (tc_drawR [none, none, none] rfl ?_)
          refine td_op rfl rfl (o_move rfl) ?_
          refine td_op rfl rfl (o_neq' rfl rfl (t := false) rfl) ?_
          refine td_op rfl rfl (o_move rfl) ?_; refine td_op rfl rfl (o_move rfl) ?_; refine td_op rfl rfl (o_pick rfl rfl rfl) ?_; refine td_op rfl rfl (o_move rfl) ?_; refine td_op rfl rfl (o_move rfl) ?_; refine td_op rfl rfl (o_move rfl) ?_
          refine td_op rfl rfl (o_neq' rfl rfl (t := false) (by simp)) ?_
          refine td_op rfl rfl (o_pick rfl rfl rfl) ?_; refine td_op rfl rfl (o_move rfl) ?_; refine td_op rfl rfl (o_move rfl) ?_; refine td_op rfl rfl (o_move rfl) ?_
          refine td_op rfl rfl (o_neqS' rfl rfl (t := false) (by simp)) ?_
          refine td_op rfl rfl (o_pick rfl rfl rfl) ?_; refine td_op rfl rfl (o_move rfl) ?_; refine td_op rfl rfl (o_move rfl) ?_; refine td_op rfl rfl (o_faddr rfl) ?_
          refine td_op rfl rfl (o_load rfl (get_app (get_app (get_app hXX))) rfl (Nat.le_of_ble_eq_true rfl) rfl) ?_
          refine td_op rfl rfl (o_neq' rfl rfl (t := false) (by simp)) ?_
          refine td_op rfl rfl (o_pick rfl rfl rfl) ?_; refine td_op rfl rfl (o_move rfl) ?_
          refine td_op rfl rfl (o_load rfl (get_app (get_app (get_app hXY))) rfl (Nat.le_of_ble_eq_true rfl) rfl) ?_
          refine td_op rfl rfl (o_callc (as := [recvV l']) rfl (by simp [closedL, AVal.closed]) rfl rfl hnum (by simp [norefL, AVal.noref])) ?_
          refine td_op rfl rfl (o_load rfl (get_app (get_app (get_app hXZ))) rfl (Nat.le_of_ble_eq_true rfl) rfl) ?_
          refine td_op rfl rfl (o_callc (as := [recvV l']) rfl (by simp [closedL, AVal.closed]) rfl rfl hnum (by simp [norefL, AVal.noref])) ?_
          refine td_op rfl rfl (o_callc (as := [.imm (encN (nums l')), .imm (encN (nums l'))]) rfl (by simp [closedL, AVal.closed]) rfl rfl heq (by simp [AVal.flat])) ?_
          refine td_op rfl rfl (o_un rfl rfl) ?_; refine td_op rfl rfl (o_pick rfl rfl rfl) ?_; refine td_nil ?_
          refine ⟨rfl, ?_⟩
          refine tc_cond rfl (fun h => nomatch h) (fun _ => tc_skip ?_)
          exact ⟨(), by (repeat' (first | exact wk_nil | refine wk_cons rfl ?_)), get_app (get_app (get_app hX3)), get_app (get_app (get_app hXY))⟩
      · refine tl_opo (o_eql' rfl rfl (t := false) (by simpa using he)) rfl rfl rfl rfl ?_
        refine tl_opo (o_move rfl) rfl rfl rfl rfl ?_; refine tl_off0 rfl rfl rfl ?_; refine tl_opo (o_pick rfl rfl rfl) rfl rfl rfl rfl ?_; refine tl_nil ?_
        refine tc_cond rfl (fun h => nomatch h) (fun _ => tc_skip ?_)
        exact ⟨(), by (repeat' (first | exact wk_nil | refine wk_cons rfl ?_)), hV3, hVY⟩
    · rintro - S ⟨h3, h8⟩
      refine tc_ops ?_
      refine tl_opo (o_load rfl h8 rfl (Nat.le_of_ble_eq_true rfl) rfl) rfl rfl rfl rfl ?_
      refine tl_opo (o_store rfl rfl h3 rfl rfl rfl rfl (Nat.le_of_ble_eq_true rfl) rfl) rfl rfl rfl rfl ?_
      refine tl_nil ?_
      refine tc_ops ?_
      refine tl_opo (o_add rfl rfl (c := ((i + 1 : Nat) : Int)) (by simp) (by omega) (by omega)) rfl rfl rfl rfl ?_
      refine tl_opo (o_move rfl) rfl rfl rfl rfl ?_; refine tl_nil ?_
      refine ⟨(i + 1, l'), by simp only; omega, by (repeat' (first | exact wk_nil | refine wk_cons rfl ?_)), by simp only; omega, ⟨hok'.ne, hok'.len, hok'.rises, fun s hs => by have := hok'.tx s hs; simp only; omega⟩, ?_⟩
      rw [set_get, if_pos ⟨rfl, (List.getElem?_eq_some_iff.1 h3).1⟩]; rfl
  · refine tc_seq (tc_ops ?_)
    refine tl_opo (o_move rfl) rfl rfl rfl rfl ?_; refine tl_nil ?_
    exact tc_ret (retd rfl ⟨_, frz_ok rfl⟩)

end Go.Eng.Recv

/- ReceiverKeeps: what the machine answers. -/
namespace Go.Eng.Recv
open Go Go.Eng
attribute [local irreducible] OpR TL TD TC CallR

theorem o_addu {m : FM} {slot : Nat} {S : Store} {x y : AOpd} {a b c : Int} (hx : lo m x = some (.int .u64 a)) (hy : lo m y = some (.int .u64 b)) (hc : a + b = c) (h1 : 0 ≤ c) (h2 : c < 18446744073709551616) : OpR AP m slot S (.bin .add x y) (.int .u64 c) S ([], []) :=
  o_bin hx hy (by simp only [abin, isShift, aintop, Bool.false_eq_true, if_false, if_true, hc, wrapu64 h1 h2])

def chain (k : Nat) : List Sta := (List.range (k + 1)).map fun (j : Nat) => (⟨(j : Int), 97 :: List.replicate j 98⟩ : Sta)
theorem chain_len (k : Nat) : (chain k).length = k + 1 := by simp [chain]
theorem chain_get {k j : Nat} (hj : j < (chain k).length) : (chain k)[j].num = j := by simp [chain]
theorem chain_take {k : Nat} (hk : k < 6) : takeR (chain k) ⟨k, (k : Int) + 1, 0, 0, [98]⟩ = (chain (k + 1), true, 0) := by
  match k, hk with
  | 0, _ => rfl
  | 1, _ => rfl
  | 2, _ => rfl
  | 3, _ => rfl
  | 4, _ => rfl
  | 5, _ => rfl
theorem chain_rises (k : Nat) : Rises (chain k) := fun i j hij hj => by
  rw [chain_get, chain_get]; omega
theorem chain_ok {k : Nat} (hk : k < 7) : Ok (chain k) 10 :=
  ⟨fun h => by have := chain_len k; rw [h] at this; simp at this, by rw [chain_len]; omega, chain_rises k, fun s hs => by
    simp only [chain, List.mem_map, List.mem_range] at hs
    obtain ⟨j, hj, rfl⟩ := hs
    simp; omega⟩

/-- the last one, that may let go -/
theorem chain_last {k : Nat} (hk : k < 7) (t : Int) : ∃ l', takeR (chain k) ⟨k, (k : Int) + 1, 0, t, [99]⟩ = (l', true, 0) ∧ Rises l' ∧ l'.length ≤ 8 ∧ ∀ i : Nat, i < k + 2 → found l' i = (decide ((i : Int) ≥ t) || decide (i = k + 1)) := by
  have hlb : lb (chain k) ((k : Int) + 1) = k + 1 := lb_spec (by rw [chain_len]; omega) (fun j hj hjk => by rw [chain_get]; omega) (fun hj => by rw [chain_len] at hj; omega)
  have hfn : found (chain k) ((k : Int) + 1) = false := by
    unfold found; rw [hlb, List.getElem?_eq_none (by rw [chain_len]; omega)]
  have hmem : (⟨(k : Int), 97 :: List.replicate k 98⟩ : Sta) ∈ chain k := by
    simp only [chain, List.mem_map, List.mem_range]; exact ⟨k, by omega, rfl⟩
  obtain ⟨hfo, hto⟩ := ofTx_mem (chain_rises k) hmem
  simp only at hfo hto
  obtain ⟨all, hall⟩ : ∃ all, insL (chain k) ((k : Int) + 1) (97 :: List.replicate k 98 ++ [99]) = all := ⟨_, rfl⟩
  have e : all = chain k ++ [⟨(k : Int) + 1, 97 :: List.replicate k 98 ++ [99]⟩] := by
    rw [← hall]; unfold insL; rw [hlb, List.take_of_length_le (by rw [chain_len]; omega), List.drop_eq_nil_of_le (by rw [chain_len]; omega)]
  have hlen : all.length = k + 2 := by rw [e]; simp [chain_len]
  have hnum : ∀ j, (hj : j < all.length) → all[j].num = j := by
    intro j hj
    subst e
    rw [List.getElem_append]
    split
    · exact chain_get _
    · rename_i h
      rw [chain_len] at h
      have : j = k + 1 := by rw [hlen] at hj; omega
      subst this
      simp
  have hris : Rises all := fun i j hij hj => by rw [hnum, hnum]; omega
  have hbel : below all t = min t.toNat (k + 2) := below_spec (by rw [hlen]; omega) (fun j hj hjk => by rw [hnum]; omega) (fun hj => by rw [hnum]; rw [hlen] at hj; omega)
  have hcut : cutAt all t = min t.toNat (k + 1) := by unfold cutAt; rw [hbel, hlen]; omega
  refine ⟨all.drop (cutAt all t), ?_, rises_drop hris _, cut_len _ _, ?_⟩
  · unfold takeR
    rw [if_neg (by simp [hfn])]
    have hh : ((chain k).headD ⟨0, []⟩).num = 0 := by simp [chain, List.range_succ_eq_map]
    rw [if_neg (by rw [hh]; simp only; omega)]
    simp only
    rw [if_neg (by rw [hfo]; simp; omega), hto]
    have hd : doR (97 :: List.replicate k 98) [99] = some (97 :: List.replicate k 98 ++ [99]) := rfl
    rw [hd]
    simp only
    rw [hall, hlb, chain_len, decide_eq_true rfl]
  · intro i hi
    rw [Bool.eq_iff_iff, found_iff (rises_drop hris _), hcut]
    simp only [Bool.or_eq_true, decide_eq_true_eq]
    constructor
    · rintro ⟨s, hs, hsn⟩
      obtain ⟨j, hj, rfl⟩ := List.getElem_of_mem hs
      rw [List.getElem_drop, hnum] at hsn
      simp at hj
      omega
    · intro h
      have hc : min t.toNat (k + 1) ≤ i := by omega
      refine ⟨(all.drop (min t.toNat (k + 1)))[i - min t.toNat (k + 1)]'(by simp; omega), List.getElem_mem _, ?_⟩
      rw [List.getElem_drop, hnum]
      omega

theorem keeps_ok (n t : Int) (h0 : 0 ≤ n) (h1 : n < 256) : CallR AP 9 [.int .u8 n, .int .u64 t] (.bool true) := by
  obtain ⟨K, hK, hK7⟩ : ∃ K : Nat, n.tmod 7 = K ∧ K < 7 := ⟨(n.tmod 7).toNat, by have := Int.tmod_nonneg 7 h0; omega, by have := Int.tmod_lt_of_pos n (show (0 : Int) < 7 by omega); omega⟩
  refine callR_of (af := c9) rfl rfl ?_
  refine tc_seq (tc_ops ?_)
  refine tl_opo (o_move rfl) rfl rfl rfl rfl ?_; refine tl_nil ?_
  refine tc_seq (tc_seq (tc_ops ?_))
  refine tl_call' (as := []) (as' := []) rfl frzL_nil awake_ok rfl rfl rfl rfl rfl ?_
  refine tl_opo (o_un rfl rfl) rfl rfl rfl rfl ?_; refine tl_nil ?_
  refine tc_cond rfl (fun h => nomatch h) (fun _ => tc_skip ?_)
  refine tc_seq (tc_ops ?_)
  refine tl_call' (as := []) (as' := []) rfl frzL_nil rule0_ok rfl rfl rfl rfl rfl ?_
  refine tl_call' (as := [.str [97], .agg [ruleV]]) (as' := [.str [97], .agg [ruleV]]) rfl (frzL_cons (fun n => ⟨_, frz_ok rfl⟩) (frzL_cons (fun n => ⟨_, frz_ok rfl⟩) frzL_nil)) (new_ok [97]) rfl rfl rfl rfl rfl ?_
  refine tl_opn o_alloc rfl rfl rfl rfl ?_; refine tl_opo (o_store rfl rfl rfl rfl rfl rfl rfl (Nat.le_of_ble_eq_true rfl) rfl) rfl rfl rfl rfl ?_; refine tl_nil ?_
  dsimp only [putM, initM, acells, effS, List.nil_append, List.cons_append, List.length_nil, List.length_cons, List.set_cons_zero, List.set_cons_succ, List.set_nil, List.append_nil, Nat.zero_add, Nat.add_zero, Nat.reduceAdd, List.replicate, nslots]
  refine tc_seq (tc_ops ?_)
  refine tl_opo (o_move rfl) rfl rfl rfl rfl ?_
  refine tl_opo (o_bin rfl rfl (v := .int .u8 (K : Int)) (by simp [abin, isShift, aintop, hK])) rfl rfl rfl rfl ?_
  refine tl_opo (o_conv rfl) rfl rfl rfl rfl ?_
  rw [wrapu64 (n := (K : Int)) (by omega) (by omega)]
  refine tl_opo (o_move rfl) rfl rfl rfl rfl ?_; refine tl_nil ?_
  refine tc_cut (σ := Unit) (fun _ => [(1, .int .u64 t), (5, .ptr 3 0 0), (6, .int .u64 (K : Int))]) (fun _ S => S[3]? = some (some ⟨2, [[ruleV, .imm (encS (chain K))]]⟩)) ?_ ?_
  · refine tc_seq (tc_ops ?_)
    refine tl_opo (o_move rfl) rfl rfl rfl rfl ?_; refine tl_opo (o_move rfl) rfl rfl rfl rfl ?_; refine tl_nil ?_
    refine tc_block (loop_st (σ := Nat) (fun i => K - i) (fun i => [(1, .int .u64 t), (5, .ptr 3 0 0), (6, .int .u64 (K : Int)), (22, .int .u64 (K : Int)), (23, .int .u64 (i : Int))])
      (fun i S => i ≤ K ∧ S[3]? = some (some ⟨2, [[ruleV, .imm (encS (chain i))]]⟩)) 0 (by (repeat' (first | exact wk_nil | refine wk_cons rfl ?_))) ⟨Nat.zero_le _, rfl⟩ ?_)
    rintro i S ⟨hi, hS⟩
    refine tc_seq (tc_ops ?_)
    refine tl_opo (o_lss rfl rfl) rfl rfl rfl rfl ?_; refine tl_nil ?_
    refine tc_seq (tc_cond rfl (fun h => tc_skip ?_) (fun h => tc_exit ?_))
    · have hi' : i < K := by simpa using h
      clear h
      have hok := chain_ok (k := i) (by omega)
      have hcall := take_ok (chain i) ⟨i, (i : Int) + 1, 0, 0, [98]⟩ hok.ne (by have := hok.len; omega) hok.rises (fun s hs => by have := hok.tx s hs; simp; omega)
      rw [chain_take (by omega)] at hcall
      refine tc_seq (tc_block (tc_seq (tc_ops ?_)))
      refine tl_opo (o_move rfl) rfl rfl rfl rfl ?_; refine tl_opo (o_move rfl) rfl rfl rfl rfl ?_; refine tl_nil ?_
      refine tc_seq (tc_ops ?_)
      refine tl_opo (o_move rfl) rfl rfl rfl rfl ?_; refine tl_nil ?_
      refine tc_seq (tc_ops ?_)
      refine tl_opo (o_load rfl hS rfl (Nat.le_of_ble_eq_true rfl) rfl) rfl rfl rfl rfl ?_
      refine tl_opo (o_move rfl) rfl rfl rfl rfl ?_; refine tl_opo (o_move rfl) rfl rfl rfl rfl ?_
      refine tl_opo (o_addu rfl rfl (c := (i : Int) + 1) rfl (by omega) (by omega)) rfl rfl rfl rfl ?_
      refine tl_opo (o_build rfl rfl) rfl rfl rfl rfl ?_
      refine tl_call' (as := [recvV (chain i), .agg (Ins.row ⟨i, (i : Int) + 1, 0, 0, [98]⟩)]) (as' := [recvV (chain i), .agg (Ins.row ⟨i, (i : Int) + 1, 0, 0, [98]⟩)]) rfl (frzL_cons (fun n => ⟨_, frz_ok (recvV_closed _)⟩) (frzL_cons (fun n => ⟨_, frz_ok rfl⟩) frzL_nil))
        hcall (by simp [norefL, AVal.noref, Ins.row]) rfl rfl rfl rfl ?_
      refine tl_opo (o_move rfl) rfl rfl rfl rfl ?_; refine tl_opo (o_extract rfl rfl) rfl rfl rfl rfl ?_; refine tl_opo (o_extract rfl rfl) rfl rfl rfl rfl ?_; refine tl_opo (o_extract rfl rfl) rfl rfl rfl rfl ?_
      refine tl_opo (o_store rfl rfl (get_app hS) rfl rfl rfl rfl (Nat.le_of_ble_eq_true rfl) rfl) rfl rfl rfl rfl ?_
      refine tl_opo (o_move rfl) rfl rfl rfl rfl ?_; refine tl_nil ?_
      refine tc_seq (tc_ops ?_)
      refine tl_opo (o_move rfl) rfl rfl rfl rfl ?_
      refine tl_opo (o_neq' rfl rfl (t := false) rfl) rfl rfl rfl rfl ?_
      refine tl_nil ?_
      refine tc_cond rfl (fun h => nomatch h) (fun _ => tc_skip ?_)
      refine tc_ops ?_
      refine tl_opo (o_addu rfl rfl (c := ((i + 1 : Nat) : Int)) (by simp) (by omega) (by omega)) rfl rfl rfl rfl ?_
      refine tl_opo (o_move rfl) rfl rfl rfl rfl ?_; refine tl_nil ?_
      refine ⟨i + 1, by omega, by (repeat' (first | exact wk_nil | refine wk_cons rfl ?_)), by omega, ?_⟩
      rw [set_get, if_pos ⟨rfl, (List.getElem?_eq_some_iff.1 (get_app hS)).1⟩]; rfl
    · have hi' : K ≤ i := by simpa using h
      have : i = K := by omega
      subst this
      exact ⟨(), by (repeat' (first | exact wk_nil | refine wk_cons rfl ?_)), hS⟩
  · rintro - S hS
    obtain ⟨l', htk, hris, hlen, hfd⟩ := chain_last hK7 t
    have hok := chain_ok hK7
    have hcall := take_ok (chain K) ⟨K, (K : Int) + 1, 0, t, [99]⟩ hok.ne (by have := hok.len; omega) hok.rises (fun s hs => by have := hok.tx s hs; simp; omega)
    rw [htk] at hcall
    simp only at hcall
    refine tc_seq (tc_ops ?_)
    refine tl_opo (o_load rfl hS rfl (Nat.le_of_ble_eq_true rfl) rfl) rfl rfl rfl rfl ?_
    refine tl_opo (o_move rfl) rfl rfl rfl rfl ?_; refine tl_opo (o_move rfl) rfl rfl rfl rfl ?_
    refine tl_opo (o_addu rfl rfl (c := (K : Int) + 1) rfl (by omega) (by omega)) rfl rfl rfl rfl ?_
    refine tl_opo (o_move rfl) rfl rfl rfl rfl ?_; refine tl_opo (o_build rfl rfl) rfl rfl rfl rfl ?_
    refine tl_call' (as := [recvV (chain K), .agg (Ins.row ⟨K, (K : Int) + 1, 0, t, [99]⟩)]) (as' := [recvV (chain K), .agg (Ins.row ⟨K, (K : Int) + 1, 0, t, [99]⟩)]) rfl (frzL_cons (fun n => ⟨_, frz_ok (recvV_closed _)⟩) (frzL_cons (fun n => ⟨_, frz_ok rfl⟩) frzL_nil))
      hcall (by simp [norefL, AVal.noref, Ins.row]) rfl rfl rfl rfl ?_
    refine tl_opo (o_move rfl) rfl rfl rfl rfl ?_; refine tl_opo (o_extract rfl rfl) rfl rfl rfl rfl ?_; refine tl_opo (o_extract rfl rfl) rfl rfl rfl rfl ?_; refine tl_opo (o_extract rfl rfl) rfl rfl rfl rfl ?_
    generalize hT : S ++ [none] = T
    have hT3 : T[3]? = some (some ⟨2, [[ruleV, .imm (encS (chain K))]]⟩) := by rw [← hT]; exact get_app hS
    clear hT
    refine tl_opn o_alloc rfl rfl rfl rfl ?_
    rw [set_snoc]
    refine tl_opo (o_store rfl rfl get_snoc rfl rfl rfl rfl (Nat.le_of_ble_eq_true rfl) rfl) rfl rfl rfl rfl ?_
    rw [set_snoc]
    refine tl_opo (o_move rfl) rfl rfl rfl rfl ?_; refine tl_opo (o_move rfl) rfl rfl rfl rfl ?_; refine tl_nil ?_
    generalize hU : T ++ [_] = U
    have hU3 : U[3]? = some (some ⟨2, [[ruleV, .imm (encS (chain K))]]⟩) := by rw [← hU]; exact get_app hT3
    have hU9 : U[T.length]? = some (some ⟨2, [[ruleV, .imm (encS l')]]⟩) := by rw [← hU]; exact get_snoc
    clear hU hT3
    generalize T.length = n9 at hU9
    refine tc_cut (σ := Unit) (fun _ => [(5, .ptr 3 0 0), (6, .int .u64 (K : Int)), (10, .bool true), (11, .int .i64 0)]) (fun _ S => S[3]? = some (some ⟨2, [[ruleV, .imm (encS (chain K))]]⟩)) ?_ ?_
    · refine tc_seq (tc_ops ?_)
      refine tl_opo (o_move rfl) rfl rfl rfl rfl ?_
      refine tl_opo (o_addu rfl rfl (c := ((K + 2 : Nat) : Int)) (by simp) (by omega) (by omega)) rfl rfl rfl rfl ?_
      refine tl_opo (o_move rfl) rfl rfl rfl rfl ?_; refine tl_nil ?_
      refine tc_block (loop_st (σ := Nat) (fun i => K + 2 - i) (fun i => [(1, .int .u64 t), (5, .ptr 3 0 0), (6, .int .u64 (K : Int)), (9, .ptr n9 0 0), (10, .bool true), (11, .int .i64 0), (51, .int .u64 ((K + 2 : Nat) : Int)), (52, .int .u64 (i : Int))])
        (fun i S => i ≤ K + 2 ∧ S[3]? = some (some ⟨2, [[ruleV, .imm (encS (chain K))]]⟩) ∧ S[n9]? = some (some ⟨2, [[ruleV, .imm (encS l')]]⟩)) 0 (by (repeat' (first | exact wk_nil | refine wk_cons rfl ?_))) ⟨Nat.zero_le _, hU3, hU9⟩ ?_)
      rintro i S ⟨hi, hS3, hS9⟩
      refine tc_seq (tc_ops ?_)
      refine tl_opo (o_lss rfl rfl) rfl rfl rfl rfl ?_; refine tl_nil ?_
      refine tc_seq (tc_cond rfl (fun h => tc_skip ?_) (fun h => tc_exit ?_))
      · have hi' : i < K + 2 := by have : (i : Int) < ((K + 2 : Nat) : Int) := by simpa using h
                                   omega
        clear h
        have hf := hfd i hi'
        refine tc_seq (tc_block (tc_seq (tc_ops ?_)))
        refine tl_opo (o_move rfl) rfl rfl rfl rfl ?_; refine tl_opo (o_move rfl) rfl rfl rfl rfl ?_; refine tl_nil ?_
        refine tc_seq (tc_ops ?_)
        refine tl_opo (o_load rfl hS9 rfl (Nat.le_of_ble_eq_true rfl) rfl) rfl rfl rfl rfl ?_
        refine tl_opo (o_move rfl) rfl rfl rfl rfl ?_
        refine tl_call' (as := [recvV l', .int .u64 (i : Int)]) (as' := [recvV l', .int .u64 (i : Int)]) rfl (frzL_cons (fun n => ⟨_, frz_ok (recvV_closed _)⟩) (frzL_cons (fun n => ⟨_, frz_ok rfl⟩) frzL_nil))
          (of_ok l' i (by omega) hris) (by simp [norefL, AVal.noref]) rfl rfl rfl rfl ?_
        refine tl_opo (o_move rfl) rfl rfl rfl rfl ?_; refine tl_opo (o_extract rfl rfl) rfl rfl rfl rfl ?_; refine tl_opo (o_extract rfl rfl) rfl rfl rfl rfl ?_; refine tl_opo (o_move rfl) rfl rfl rfl rfl ?_; refine tl_opo (o_move rfl) rfl rfl rfl rfl ?_; refine tl_nil ?_
        refine tc_seq (tc_ops ?_)
        refine tl_opo (o_move rfl) rfl rfl rfl rfl ?_; refine tl_opo (o_move rfl) rfl rfl rfl rfl ?_; refine tl_opo (o_move rfl) rfl rfl rfl rfl ?_
        by_cases hge : (i : Int) ≥ t
        · rw [decide_eq_true hge, Bool.true_or] at hf
          refine tl_opo (o_geq' rfl rfl (t := true) (by simpa using hge)) rfl rfl rfl rfl ?_
          refine tl_opo (o_move rfl) rfl rfl rfl rfl ?_; refine tl_off0 rfl rfl rfl ?_; refine tl_off0 rfl rfl rfl ?_; refine tl_off0 rfl rfl rfl ?_; refine tl_off0 rfl rfl rfl ?_; refine tl_opo (o_pick rfl rfl rfl) rfl rfl rfl rfl ?_
          rw [hf]
          refine tl_opo (o_eqB rfl rfl) rfl rfl rfl rfl ?_
          refine tl_nil ?_
          refine tc_cond rfl (fun h => nomatch h) (fun _ => tc_skip ?_)
          refine tc_ops ?_
          refine tl_opo (o_addu rfl rfl (c := ((i + 1 : Nat) : Int)) (by simp) (by omega) (by omega)) rfl rfl rfl rfl ?_
          refine tl_opo (o_move rfl) rfl rfl rfl rfl ?_; refine tl_nil ?_
          exact ⟨i + 1, by omega, by (repeat' (first | exact wk_nil | refine wk_cons rfl ?_)), by omega, get_app hS3, get_app hS9⟩
        · rw [decide_eq_false hge, Bool.false_or] at hf
          refine tl_opo (o_geq' rfl rfl (t := false) (by simpa using hge)) rfl rfl rfl rfl ?_
          refine tl_opo (o_move rfl) rfl rfl rfl rfl ?_; refine tl_opo (o_move rfl) rfl rfl rfl rfl ?_; refine tl_opo (o_move rfl) rfl rfl rfl rfl ?_
          refine tl_opo (o_addu rfl rfl (c := ((K + 1 : Nat) : Int)) (by simp) (by omega) (by omega)) rfl rfl rfl rfl ?_
          refine tl_opo (o_eql' rfl rfl (t := decide (i = K + 1)) (by rw [Bool.eq_iff_iff]; simp; omega)) rfl rfl rfl rfl ?_
          refine tl_opo (o_pick rfl rfl rfl) rfl rfl rfl rfl ?_
          rw [hf]
          generalize decide (i = K + 1) = b
          refine tl_opo (o_eqB rfl rfl) rfl rfl rfl rfl ?_
          refine tl_nil ?_
          refine tc_cond (t := false) (by cases b <;> rfl) (fun h => nomatch h) (fun _ => tc_skip ?_)
          refine tc_ops ?_
          refine tl_opo (o_addu rfl rfl (c := ((i + 1 : Nat) : Int)) (by simp) (by omega) (by omega)) rfl rfl rfl rfl ?_
          refine tl_opo (o_move rfl) rfl rfl rfl rfl ?_; refine tl_nil ?_
          exact ⟨i + 1, by omega, by (repeat' (first | exact wk_nil | refine wk_cons rfl ?_)), by omega, get_app hS3, get_app hS9⟩
      · exact ⟨(), by (repeat' (first | exact wk_nil | refine wk_cons rfl ?_)), hS3⟩
    · rintro - S hS3
      refine tc_seq (tc_ops ?_)
      refine tl_opo (o_move rfl) rfl rfl rfl rfl ?_
      refine tl_opo (o_eql' rfl rfl (t := true) rfl) rfl rfl rfl rfl ?_
      refine tl_opo (o_move rfl) rfl rfl rfl rfl ?_; refine tl_opo (o_move rfl) rfl rfl rfl rfl ?_; refine tl_opo (o_pick rfl rfl rfl) rfl rfl rfl rfl ?_; refine tl_opo (o_move rfl) rfl rfl rfl rfl ?_
      refine tl_opo (o_load rfl hS3 rfl (Nat.le_of_ble_eq_true rfl) rfl) rfl rfl rfl rfl ?_
      refine tl_call' (as := [recvV (chain K)]) (as' := [recvV (chain K)]) rfl (frzL_cons (fun n => ⟨_, frz_ok (recvV_closed _)⟩) frzL_nil)
        (numbers_ok (chain K) (by rw [chain_len]; omega)) (by simp [norefL, AVal.noref]) rfl rfl rfl rfl ?_
      refine tl_opo (o_len_imm rfl) rfl rfl rfl rfl ?_; refine tl_opo (o_move rfl) rfl rfl rfl rfl ?_
      refine tl_opo (o_conv rfl) rfl rfl rfl rfl ?_
      rw [wrap64 (n := (K : Int)) (by omega) (by omega)]
      refine tl_opo (o_add rfl rfl (c := ((K + 1 : Nat) : Int)) (by simp) (by omega) (by omega)) rfl rfl rfl rfl ?_
      refine tl_opo (o_eql' rfl rfl (t := true) (by simp [chain_len])) rfl rfl rfl rfl ?_
      refine tl_opo (o_pick rfl rfl rfl) rfl rfl rfl rfl ?_; refine tl_opo (o_move rfl) rfl rfl rfl rfl ?_; refine tl_nil ?_
      exact tc_ret (retd rfl ⟨_, frz_ok rfl⟩)

end Go.Eng.Recv

