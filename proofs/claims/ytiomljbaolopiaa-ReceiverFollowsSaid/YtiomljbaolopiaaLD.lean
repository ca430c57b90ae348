/- A part of the engine: a machine over abstract values, and the proof that the program does what it does; no condition. -/
import Derived.Test.YtiomljbaolopiaaLC
import Derived.Test.YtiomljbaolopiaaE5
set_option linter.unusedSectionVars false
set_option linter.unusedVariables false
set_option linter.unusedSimpArgs false
set_option linter.unnecessarySimpa false
/- The document's answer. -/
namespace Go.Eng.Recv
open Go Go.Eng
attribute [local irreducible] OpR TL TD TC CallR

def findR (l : List Sta) (n : Int) : Int := if found l n then (lb l n : Int) else -1

theorem find_ok (l : List Sta) (n : Int) (hl : l.length ≤ 1000000) (hr : Rises l) : CallR AP 39 [.imm (encS l), .int .u64 n] (.int .i64 (findR l n)) := by
  refine callR_of (af := c39) rfl rfl ?_
  refine tc_seq (tc_ops ?_)
  refine tl_opo (o_move rfl) rfl rfl rfl rfl ?_; refine tl_nil ?_
  refine tc_seq (tc_seq (tc_ops ?_))
  refine tl_opo (o_move rfl) rfl rfl rfl rfl ?_; refine tl_opo (o_len_imm rfl) rfl rfl rfl rfl ?_; refine tl_opo (o_move rfl) rfl rfl rfl rfl ?_; refine tl_nil ?_
  dsimp only [putM, initM, acells, effS, List.nil_append, List.cons_append, List.length_nil, List.length_cons, List.set_cons_zero, List.set_cons_succ, List.set_nil, List.append_nil, Nat.zero_add, Nat.add_zero, Nat.reduceAdd, List.replicate, nslots]
  refine tc_block (loop_st (σ := Nat) (fun i => l.length - i) (fun i => [(1, .int .u64 n), (7, .imm (encS l)), (8, .int .i64 (encS l).length), (9, .int .i64 (i : Int))])
    (fun i S => i ≤ l.length ∧ ∀ j, (hj : j < l.length) → j < i → l[j].num ≠ n) 0 (by (repeat' (first | exact wk_nil | refine wk_cons rfl ?_))) ⟨Nat.zero_le _, fun j _ h => by omega⟩ ?_)
  rintro i S ⟨hi, hne⟩
  refine tc_seq (tc_ops ?_)
  refine tl_opo (o_lss rfl rfl) rfl rfl rfl rfl ?_; refine tl_nil ?_
  refine tc_seq (tc_cond rfl (fun h => tc_skip ?_) (fun h => tc_exit ?_))
  · have hi' : i < l.length := by simpa using h
    refine tc_seq (tc_block (tc_seq (tc_ops ?_)))
    refine tl_opo (o_move rfl) rfl rfl rfl rfl ?_
    refine tl_opo (o_iaddr rfl rfl (encS_get hi') rfl) rfl rfl rfl rfl ?_
    refine tl_opo (o_loadr rfl (Nat.le_of_ble_eq_true rfl) rfl) rfl rfl rfl rfl ?_
    refine tl_opn o_alloc rfl rfl rfl rfl ?_
    rw [set_snoc]
    refine tl_opo (o_move rfl) rfl rfl rfl rfl ?_
    refine tl_opo (o_store rfl rfl get_snoc rfl rfl rfl rfl (Nat.le_of_ble_eq_true rfl) rfl) rfl rfl rfl rfl ?_
    rw [set_snoc]
    refine tl_nil ?_
    refine tc_seq (tc_ops ?_)
    refine tl_opo (o_faddr rfl) rfl rfl rfl rfl ?_
    refine tl_opo (o_load rfl get_snoc rfl (Nat.le_of_ble_eq_true rfl) rfl) rfl rfl rfl rfl ?_
    refine tl_opo (o_move rfl) rfl rfl rfl rfl ?_
    by_cases he : l[i].num = n
    · refine tl_opo (o_eql' rfl rfl (t := true) (by simpa using he)) rfl rfl rfl rfl ?_
      refine tl_nil ?_
      refine tc_cond rfl (fun _ => ?_) (fun h => nomatch h)
      refine tc_seq (tc_ops ?_)
      refine tl_opo (o_move rfl) rfl rfl rfl rfl ?_; refine tl_opo (o_move rfl) rfl rfl rfl rfl ?_; refine tl_nil ?_
      have h1 : lb l n = i := lb_spec hi (fun j hj hji => by have := hr j i hji hi'; omega) (fun _ => by omega)
      have hf : found l n = true := (found_iff hr).2 ⟨_, List.getElem_mem hi', he⟩
      have : findR l n = (i : Int) := by unfold findR; rw [if_pos hf, h1]
      rw [this]
      exact tc_ret (retd rfl ⟨_, frz_ok rfl⟩)
    · refine tl_opo (o_eql' rfl rfl (t := false) (by simpa using he)) rfl rfl rfl rfl ?_
      refine tl_nil ?_
      refine tc_cond rfl (fun h => nomatch h) (fun _ => tc_skip ?_)
      refine tc_ops ?_
      refine tl_opo (o_add rfl rfl (c := ((i + 1 : Nat) : Int)) (by simp) (by omega) (by omega)) rfl rfl rfl rfl ?_
      refine tl_opo (o_move rfl) rfl rfl rfl rfl ?_; refine tl_nil ?_
      refine ⟨i + 1, by omega, by (repeat' (first | exact wk_nil | refine wk_cons rfl ?_)), by omega, ?_⟩
      intro j hj hji
      rcases Nat.lt_or_ge j i with h | h
      · exact hne j hj h
      · have : j = i := by omega
        subst this; exact he
  · have hi' : l.length ≤ i := by simpa using h
    have hf : found l n = false := by
      cases h : found l n with
      | false => rfl
      | true =>
        obtain ⟨s, hs, hsn⟩ := (found_iff hr).1 h
        obtain ⟨j, hj, rfl⟩ := List.getElem_of_mem hs
        exact absurd hsn (hne j hj (by omega))
    have : findR l n = -1 := by unfold findR; rw [hf]; rfl
    rw [this]
    refine tc_seq (tc_ops ?_)
    refine tl_opo (o_move rfl) rfl rfl rfl rfl ?_; refine tl_nil ?_
    exact tc_ret (retd rfl ⟨_, frz_ok rfl⟩)

/-- what the document has put together behind k of the states -/
def allTo (l : List Sta) (n : Int) (v : List UInt8) (k : Nat) : List Sta := if k ≤ lb l n then l.take k else (insL l n v).take (k + 1)
theorem insL_get {l : List Sta} {n : Int} {v : List UInt8} {k : Nat} (hk : k < l.length) : (insL l n v)[k + 1]? = if k < lb l n then (if k + 1 = lb l n then some ⟨n, v⟩ else l[k + 1]?) else some l[k] := by
  have hle := lb_le l n
  unfold insL
  have htl : (l.take (lb l n)).length = lb l n := by simp; omega
  split
  · rename_i h
    split
    · rename_i h2
      rw [List.getElem?_append_right (by omega), htl]
      simp [h2]
    · rename_i h2
      rw [List.getElem?_append_left (by omega), List.getElem?_take_of_lt (by omega)]
  · rename_i h
    rw [List.getElem?_append_right (by omega), htl]
    have : k + 1 - lb l n = (k - lb l n) + 1 := by omega
    rw [this, List.getElem?_cons_succ, List.getElem?_drop, show lb l n + (k - lb l n) = k by omega, List.getElem?_eq_getElem hk]
theorem allTo_lt {l : List Sta} {n : Int} {v : List UInt8} {k : Nat} (hk : k < l.length) (h : k < lb l n) : allTo l n v (k + 1) = allTo l n v k ++ [l[k]] := by
  unfold allTo
  rw [if_pos (by omega), if_pos (by omega), List.take_add_one, List.getElem?_eq_getElem hk]; rfl
theorem allTo_at {l : List Sta} {n : Int} {v : List UInt8} (hk : lb l n < l.length) : allTo l n v (lb l n + 1) = allTo l n v (lb l n) ++ [⟨n, v⟩] ++ [l[lb l n]] := by
  unfold allTo
  rw [if_neg (by omega), if_pos (Nat.le_refl _), List.take_add_one, insL_get hk, if_neg (by omega)]
  have htl : (l.take (lb l n)).length = lb l n := by simp; omega
  have : (insL l n v).take (lb l n + 1) = l.take (lb l n) ++ [⟨n, v⟩] := by
    unfold insL
    rw [List.take_append, htl, List.take_of_length_le (by omega), show lb l n + 1 - lb l n = 1 by omega]
    rfl
  rw [this]; rfl
theorem allTo_gt {l : List Sta} {n : Int} {v : List UInt8} {k : Nat} (hk : k < l.length) (h : lb l n < k) : allTo l n v (k + 1) = allTo l n v k ++ [l[k]] := by
  unfold allTo
  rw [if_neg (by omega), if_neg (by omega), List.take_add_one (i := k + 1), insL_get hk, if_neg (by omega)]; rfl
theorem allTo_len {l : List Sta} {n : Int} {v : List UInt8} (h : lb l n < l.length) : allTo l n v l.length = insL l n v := by
  unfold allTo
  rw [if_neg (by omega), List.take_of_length_le (by rw [insL_len]; exact Nat.le_refl _)]
theorem allTo_end {l : List Sta} {n : Int} {v : List UInt8} (h : lb l n = l.length) : allTo l n v l.length ++ [⟨n, v⟩] = insL l n v := by
  unfold allTo insL
  rw [if_pos (by omega), h]; simp
theorem allTo_le {l : List Sta} {n : Int} {v : List UInt8} {k : Nat} : (allTo l n v k).length ≤ k + 1 := by
  unfold allTo; split <;> simp <;> omega

end Go.Eng.Recv

/- The document's answer to an instruction. -/
namespace Go.Eng.Recv
open Go Go.Eng
attribute [local irreducible] OpR TL TD TC CallR

/-- what is let through of the first k -/
def outTo (all : List Sta) (c k : Nat) : List Sta := (all.take k).drop c
theorem outTo_in {all : List Sta} {c k : Nat} (hk : k < all.length) (h : c ≤ k) : outTo all c (k + 1) = outTo all c k ++ [all[k]] := by
  unfold outTo
  rw [List.take_add_one, List.getElem?_eq_getElem hk]
  simp only [Option.toList_some]
  rw [List.drop_append_of_le_length (by simp; omega)]
theorem outTo_out {all : List Sta} {c k : Nat} (h : k < c) : outTo all c (k + 1) = outTo all c k := by
  unfold outTo
  rw [List.drop_eq_nil_of_le (by simp; omega), List.drop_eq_nil_of_le (by simp; omega)]
theorem outTo_le {all : List Sta} {c k : Nat} : (outTo all c k).length ≤ k := by unfold outTo; simp; omega

theorem below_lt {l : List Sta} {t : Int} {j : Nat} (hj : j < l.length) (h : j < below l t) : l[j].num < t := lb_lt hj h
theorem below_ge {l : List Sta} {t : Int} (hr : Rises l) {j : Nat} (hj : j < l.length) (h : below l t ≤ j) : t ≤ l[j].num := lb_ge hr hj h

theorem rtake_ok (l : List Sta) (i : Ins) (hne : l ≠ []) (hl : l.length ≤ 8) (hr : Rises l) (hb : ∀ s ∈ l, s.tx.length + i.diff.length ≤ 1000000) :
    CallR AP 35 [.imm (encS l), .int .u64 i.old, .int .u64 i.new, .int .u64 i.throw, .str i.diff] (.tuple [.imm (encS (takeR l i).1), .bool (takeR l i).2.1, .int .i64 (takeR l i).2.2]) := by
  obtain ⟨x0, l', hxl⟩ : ∃ x l', l = x :: l' := by
    cases l with
    | nil => exact absurd rfl hne
    | cons x l' => exact ⟨x, l', rfl⟩
  have hpos : 0 < l.length := by rw [hxl]; simp
  refine callR_of (af := c35) rfl rfl ?_
  refine tc_seq (tc_ops ?_)
  refine tl_opo (o_move rfl) rfl rfl rfl rfl ?_; refine tl_opo (o_move rfl) rfl rfl rfl rfl ?_; refine tl_opo (o_move rfl) rfl rfl rfl rfl ?_; refine tl_nil ?_
  refine tc_seq (tc_seq (tc_ops ?_))
  refine tl_opo (o_move rfl) rfl rfl rfl rfl ?_; refine tl_opo (o_move rfl) rfl rfl rfl rfl ?_
  refine tl_call' (as := [.imm (encS l), .int .u64 i.new]) (as' := [.imm (encS l), .int .u64 i.new]) rfl (frzL_cons (fun n => ⟨_, frz_ok (by simp [AVal.closed])⟩) (frzL_cons (fun n => ⟨_, frz_ok rfl⟩) frzL_nil))
    (find_ok l i.new (by omega) hr) (by simp [norefL, AVal.noref]) rfl rfl rfl rfl ?_
  unfold takeR
  cases hf : found l i.new with
  | true =>
    have hfr : findR l i.new = (lb l i.new : Int) := by unfold findR; rw [hf]; rfl
    refine tl_opo (o_geq' rfl rfl (t := true) (by rw [hfr]; simp)) rfl rfl rfl rfl ?_
    refine tl_nil ?_
    refine tc_cond rfl (fun _ => ?_) (fun h => nomatch h)
    refine tc_seq (tc_ops ?_)
    refine tl_opo (o_move rfl) rfl rfl rfl rfl ?_; refine tl_opo (o_move rfl) rfl rfl rfl rfl ?_; refine tl_opo (o_move rfl) rfl rfl rfl rfl ?_; refine tl_opo (o_move rfl) rfl rfl rfl rfl ?_; refine tl_nil ?_
    dsimp only [putM, initM, acells, effS, List.nil_append, List.cons_append, List.length_nil, List.length_cons, List.set_cons_zero, List.set_cons_succ, List.set_nil, List.append_nil, Nat.zero_add, Nat.add_zero, Nat.reduceAdd, List.replicate, nslots]
    exact tc_ret (retd rfl ⟨_, frz_ok (by simp [one, AVal.closed, closedL])⟩)
  | false =>
  rw [if_neg (by simp)]
  have hfr : findR l i.new = -1 := by unfold findR; rw [hf]; rfl
  refine tl_opo (o_geq' rfl rfl (t := false) (by rw [hfr]; rfl)) rfl rfl rfl rfl ?_
  refine tl_nil ?_
  refine tc_cond rfl (fun h => nomatch h) (fun _ => tc_skip ?_)
  have hx0 : (encS l)[0]? = some x0.row := by rw [hxl]; rfl
  have hhd : l.headD ⟨0, []⟩ = x0 := by rw [hxl]; rfl
  rw [hhd]
  refine tc_seq (tc_seq (tc_ops ?_))
  refine tl_opo (o_move rfl) rfl rfl rfl rfl ?_; refine tl_opo (o_move rfl) rfl rfl rfl rfl ?_
  refine tl_opo (o_iaddr (n := 0) rfl rfl hx0 rfl) rfl rfl rfl rfl ?_
  refine tl_opo (o_faddrr rfl) rfl rfl rfl rfl ?_; refine tl_opo (o_loadr rfl (Nat.le_of_ble_eq_true rfl) rfl) rfl rfl rfl rfl ?_
  by_cases h9 : i.new < x0.num
  · rw [if_pos h9]
    refine tl_opo (o_lss' rfl rfl (t := true) (by simpa using h9)) rfl rfl rfl rfl ?_
    refine tl_nil ?_
    refine tc_cond rfl (fun _ => ?_) (fun h => nomatch h)
    refine tc_seq (tc_ops ?_)
    refine tl_opo (o_move rfl) rfl rfl rfl rfl ?_; refine tl_opo (o_move rfl) rfl rfl rfl rfl ?_; refine tl_opo (o_move rfl) rfl rfl rfl rfl ?_; refine tl_opo (o_move rfl) rfl rfl rfl rfl ?_; refine tl_nil ?_
    exact tc_ret (retd rfl ⟨_, frz_ok (by simp [one, AVal.closed, closedL])⟩)
  rw [if_neg h9]
  refine tl_opo (o_lss' rfl rfl (t := false) (by simpa using h9)) rfl rfl rfl rfl ?_
  refine tl_nil ?_
  refine tc_cond rfl (fun h => nomatch h) (fun _ => tc_skip ?_)
  refine tc_seq (tc_ops ?_)
  refine tl_opo (o_move rfl) rfl rfl rfl rfl ?_; refine tl_opo (o_move rfl) rfl rfl rfl rfl ?_
  refine tl_call' (as := [.imm (encS l), .int .u64 i.old]) (as' := [.imm (encS l), .int .u64 i.old]) rfl (frzL_cons (fun n => ⟨_, frz_ok (by simp [AVal.closed])⟩) (frzL_cons (fun n => ⟨_, frz_ok rfl⟩) frzL_nil))
    (find_ok l i.old (by omega) hr) (by simp [norefL, AVal.noref]) rfl rfl rfl rfl ?_
  refine tl_opo (o_move rfl) rfl rfl rfl rfl ?_; refine tl_nil ?_
  refine tc_seq (tc_seq (tc_ops ?_))
  refine tl_opo (o_move rfl) rfl rfl rfl rfl ?_
  by_cases h19 : found l i.old = false ∨ i.old ≥ i.new
  · rw [if_pos h19]
    cases ho : found l i.old with
    | false =>
      have hfo : findR l i.old = -1 := by unfold findR; rw [ho]; rfl
      refine tl_opo (o_lss' rfl rfl (t := true) (by rw [hfo]; rfl)) rfl rfl rfl rfl ?_
      refine tl_opo (o_move rfl) rfl rfl rfl rfl ?_; refine tl_off0 rfl rfl rfl ?_; refine tl_off0 rfl rfl rfl ?_; refine tl_off0 rfl rfl rfl ?_; refine tl_opo (o_pick rfl rfl rfl) rfl rfl rfl rfl ?_; refine tl_nil ?_
      refine tc_cond rfl (fun _ => ?_) (fun h => nomatch h)
      refine tc_seq (tc_ops ?_)
      refine tl_opo (o_move rfl) rfl rfl rfl rfl ?_; refine tl_opo (o_move rfl) rfl rfl rfl rfl ?_; refine tl_opo (o_move rfl) rfl rfl rfl rfl ?_; refine tl_opo (o_move rfl) rfl rfl rfl rfl ?_; refine tl_nil ?_
      exact tc_ret (retd rfl ⟨_, frz_ok (by simp [one, AVal.closed, closedL])⟩)
    | true =>
      have hfo : findR l i.old = (lb l i.old : Int) := by unfold findR; rw [ho]; rfl
      refine tl_opo (o_lss' rfl rfl (t := false) (by rw [hfo]; simp)) rfl rfl rfl rfl ?_
      refine tl_opo (o_move rfl) rfl rfl rfl rfl ?_; refine tl_opo (o_move rfl) rfl rfl rfl rfl ?_; refine tl_opo (o_move rfl) rfl rfl rfl rfl ?_
      refine tl_opo (o_geq' rfl rfl (t := true) (by rw [ho] at h19; simpa using h19)) rfl rfl rfl rfl ?_
      refine tl_opo (o_pick rfl rfl rfl) rfl rfl rfl rfl ?_; refine tl_nil ?_
      refine tc_cond rfl (fun _ => ?_) (fun h => nomatch h)
      refine tc_seq (tc_ops ?_)
      refine tl_opo (o_move rfl) rfl rfl rfl rfl ?_; refine tl_opo (o_move rfl) rfl rfl rfl rfl ?_; refine tl_opo (o_move rfl) rfl rfl rfl rfl ?_; refine tl_opo (o_move rfl) rfl rfl rfl rfl ?_; refine tl_nil ?_
      exact tc_ret (retd rfl ⟨_, frz_ok (by simp [one, AVal.closed, closedL])⟩)
  rw [if_neg h19]
  have ho : found l i.old = true := by
    cases h : found l i.old with
    | true => rfl
    | false => exact absurd (.inl h) h19
  have hon : ¬ i.old ≥ i.new := fun h => h19 (.inr h)
  have htx : (ofTx l i.old).length + i.diff.length ≤ 1000000 := by
    rw [ofTx_found ho]
    exact hb _ (List.getElem_mem _)
  have hfo : findR l i.old = (lb l i.old : Int) := by unfold findR; rw [ho]; rfl
  refine tl_opo (o_lss' rfl rfl (t := false) (by rw [hfo]; simp)) rfl rfl rfl rfl ?_
  refine tl_opo (o_move rfl) rfl rfl rfl rfl ?_; refine tl_opo (o_move rfl) rfl rfl rfl rfl ?_; refine tl_opo (o_move rfl) rfl rfl rfl rfl ?_
  refine tl_opo (o_geq' rfl rfl (t := false) (by simpa using hon)) rfl rfl rfl rfl ?_
  refine tl_opo (o_pick rfl rfl rfl) rfl rfl rfl rfl ?_; refine tl_nil ?_
  refine tc_cond rfl (fun h => nomatch h) (fun _ => tc_skip ?_)
  have hold : (encS l)[lb l i.old]? = some [.int .u64 i.old, .str (ofTx l i.old)] := by
    rw [encS_get (found_lt ho), found_num ho, ofTx_found ho]; rfl
  refine tc_seq (tc_ops ?_)
  refine tl_opo (o_move rfl) rfl rfl rfl rfl ?_; refine tl_opo (o_move rfl) rfl rfl rfl rfl ?_
  rw [hfo]
  refine tl_opo (o_iaddr rfl rfl hold rfl) rfl rfl rfl rfl ?_
  refine tl_opo (o_faddrr rfl) rfl rfl rfl rfl ?_; refine tl_opo (o_loadr rfl (Nat.le_of_ble_eq_true rfl) rfl) rfl rfl rfl rfl ?_; refine tl_opo (o_move rfl) rfl rfl rfl rfl ?_
  refine tl_call' (as := [.str (ofTx l i.old), .str i.diff]) (as' := [.str (ofTx l i.old), .str i.diff]) rfl (frzL_cons (fun n => ⟨_, frz_ok rfl⟩) (frzL_cons (fun n => ⟨_, frz_ok rfl⟩) frzL_nil)) (rdo_ok _ _ htx) rfl rfl rfl rfl rfl ?_
  refine tl_opo (o_move rfl) rfl rfl rfl rfl ?_; refine tl_opo (o_extract rfl rfl) rfl rfl rfl rfl ?_; refine tl_opo (o_extract rfl rfl) rfl rfl rfl rfl ?_; refine tl_opo (o_move rfl) rfl rfl rfl rfl ?_; refine tl_opo (o_move rfl) rfl rfl rfl rfl ?_; refine tl_nil ?_
  refine tc_seq (tc_seq (tc_ops ?_))
  refine tl_opo (o_move rfl) rfl rfl rfl rfl ?_; refine tl_opo (o_un rfl rfl) rfl rfl rfl rfl ?_; refine tl_nil ?_
  cases hd : doR (ofTx l i.old) i.diff with
  | none =>
    refine tc_cond rfl (fun _ => ?_) (fun h => nomatch h)
    refine tc_seq (tc_ops ?_)
    refine tl_opo (o_move rfl) rfl rfl rfl rfl ?_; refine tl_opo (o_move rfl) rfl rfl rfl rfl ?_; refine tl_opo (o_move rfl) rfl rfl rfl rfl ?_; refine tl_opo (o_move rfl) rfl rfl rfl rfl ?_; refine tl_nil ?_
    exact tc_ret (retd rfl ⟨_, frz_ok (by simp [one, AVal.closed, closedL])⟩)
  | some v =>
  refine tc_cond rfl (fun h => nomatch h) (fun _ => tc_skip ?_)
  refine tc_seq (tc_ops ?_)
  refine tl_opo (o_move rfl) rfl rfl rfl rfl ?_; refine tl_nil ?_
  refine tc_seq (tc_ops ?_)
  refine tl_opo (o_move rfl) rfl rfl rfl rfl ?_; refine tl_nil ?_
  dsimp only [putM, initM, acells, effS, List.nil_append, List.cons_append, List.length_nil, List.length_cons, List.set_cons_zero, List.set_cons_succ, List.set_nil, List.append_nil, Nat.zero_add, Nat.add_zero, Nat.reduceAdd, List.replicate, nslots]
  have hlbl := lb_le l i.new
  -- all of them
  refine tc_cut (σ := AVal × Bool) (fun s => [(2, .int .u64 i.new), (3, .int .u64 i.throw), (14, .str v), (16, s.1), (17, .bool s.2)]) (fun s S => s.2 = decide (lb l i.new < l.length) ∧ Acc 0 2 S s.1 (encS (allTo l i.new v l.length))) ?_ ?_
  · refine tc_seq (tc_ops ?_)
    refine tl_opo (o_move rfl) rfl rfl rfl rfl ?_; refine tl_opo (o_len_imm rfl) rfl rfl rfl rfl ?_; refine tl_opo (o_move rfl) rfl rfl rfl rfl ?_; refine tl_nil ?_
    refine tc_block (loop_st (σ := Nat × AVal × Bool) (fun s => l.length - s.1) (fun s => [(2, .int .u64 i.new), (3, .int .u64 i.throw), (14, .str v), (16, s.2.1), (17, .bool s.2.2), (59, .imm (encS l)), (60, .int .i64 (encS l).length), (61, .int .i64 (s.1 : Int))])
      (fun s S => s.1 ≤ l.length ∧ s.2.2 = decide (lb l i.new < s.1) ∧ Acc 0 2 S s.2.1 (encS (allTo l i.new v s.1))) (0, .nils, false) (by (repeat' (first | exact wk_nil | refine wk_cons rfl ?_))) ⟨Nat.zero_le _, by simp, .inl ⟨rfl, by simp [allTo, encS]⟩⟩ ?_)
    rintro ⟨k, out, dn⟩ S ⟨hk, hdn, hacc⟩
    simp only at hk hdn hacc
    have hle := allTo_le (l := l) (n := i.new) (v := v) (k := k)
    refine tc_seq (tc_ops ?_)
    refine tl_opo (o_lss rfl rfl) rfl rfl rfl rfl ?_; refine tl_nil ?_
    refine tc_seq (tc_cond rfl (fun h => tc_skip ?_) (fun h => tc_exit ?_))
    · have hk' : k < l.length := by simpa using h
      clear h
      refine tc_seq (tc_block (tc_seq (tc_ops ?_)))
      refine tl_opo (o_iaddr rfl rfl (encS_get hk') rfl) rfl rfl rfl rfl ?_
      refine tl_opo (o_loadr rfl (Nat.le_of_ble_eq_true rfl) rfl) rfl rfl rfl rfl ?_
      refine tl_opn o_alloc rfl rfl rfl rfl ?_
      rw [set_snoc]
      refine tl_opo (o_store rfl rfl get_snoc rfl rfl rfl rfl (Nat.le_of_ble_eq_true rfl) rfl) rfl rfl rfl rfl ?_
      rw [set_snoc]
      refine tl_nil ?_
      generalize hT : S ++ [_] = T
      have hTX : T[S.length]? = some (some ⟨2, [l[k].row]⟩) := by rw [← hT]; exact get_snoc
      have hTa : Acc 0 2 T out (encS (allTo l i.new v k)) := by rw [← hT]; exact hacc.snoc _
      have hTf := Acc.young hacc (Nat.le_refl _)
      clear hT hacc
      generalize S.length = n19 at hTX hTf
      have hTl : n19 < T.length := (List.getElem?_eq_some_iff.1 hTX).1
      have hnn : l[k].num ≠ i.new := fun he => by
        have := (found_iff hr).2 ⟨_, List.getElem_mem hk', he⟩
        rw [hf] at this; cases this
      -- the state itself, put behind what is there
      have put : ∀ (out2 : AVal) (dn2 : Bool) (T2 : Store) (pre : List Sta), T2[n19]? = some (some ⟨2, [l[k].row]⟩) → Acc 0 2 T2 out2 (encS pre) → pre.length ≤ 20 → dn2 = decide (lb l i.new < k + 1) → allTo l i.new v (k + 1) = pre ++ [l[k]] →
          TC AP (max c35.nargs c35.N) (ACode.ops [⟨(some 79), (.move (.t 16)), none, []⟩, ⟨(some 80), (.load true 2 (.t 19)), none, []⟩, ⟨(some 81), (.buildSlice [(.int .u64 0), (.str [])] 2 1 [(0, (.t 80))]), none, []⟩, ⟨(some 82), (.append 2 24 (.t 79) (.t 81)), none, []⟩, ⟨(some 16), (.move (.t 82)), none, []⟩])
            [(2, .int .u64 i.new), (3, .int .u64 i.throw), (14, .str v), (16, out2), (17, .bool dn2), (19, .ptr n19 0 0), (59, .imm (encS l)), (60, .int .i64 (encS l).length), (61, .int .i64 (k : Int))] T2
            (fun ex m S => ex = .normal ∧ ∃ out3, Wk m [(2, .int .u64 i.new), (3, .int .u64 i.throw), (14, .str v), (16, out3), (17, .bool dn2), (59, .imm (encS l)), (60, .int .i64 (encS l).length), (61, .int .i64 (k : Int))] ∧ dn2 = decide (lb l i.new < k + 1) ∧ Acc 0 2 S out3 (encS (allTo l i.new v (k + 1)))) := by
        intro out2 dn2 T2 pre h1 h2 hpl h3 h4
        refine tc_ops ?_
        refine tl_opo (o_move rfl) rfl rfl rfl rfl ?_
        refine tl_opo (o_load rfl h1 rfl (Nat.le_of_ble_eq_true rfl) rfl) rfl rfl rfl rfl ?_
        refine tl_opo (o_buildSlice rfl rfl) rfl rfl rfl rfl ?_
        refine tl_acc rfl rfl h2 (new := encS [l[k]]) rfl (by simp [encS]) rfl (by simp; omega) (by simp) rfl rfl ?_
        intro v' S' hacc' hlen hold
        refine tl_opo (o_move rfl) rfl rfl rfl rfl ?_; refine tl_nil ?_
        refine ⟨rfl, v', by (repeat' (first | exact wk_nil | refine wk_cons rfl ?_)), h3, ?_⟩
        rw [h4]
        simpa [encS] using hacc'
      refine tc_cut (σ := AVal × Bool × List Sta) (fun s => [(2, .int .u64 i.new), (3, .int .u64 i.throw), (14, .str v), (16, s.1), (17, .bool s.2.1), (19, .ptr n19 0 0), (59, .imm (encS l)), (60, .int .i64 (encS l).length), (61, .int .i64 (k : Int))])
        (fun s T2 => T2[n19]? = some (some ⟨2, [l[k].row]⟩) ∧ Acc 0 2 T2 s.1 (encS s.2.2) ∧ s.2.2.length ≤ 20 ∧ s.2.1 = decide (lb l i.new < k + 1) ∧ allTo l i.new v (k + 1) = s.2.2 ++ [l[k]]) ?_ ?_
      · refine tc_seq (tc_ops ?_)
        refine tl_opo (o_move rfl) rfl rfl rfl rfl ?_
        by_cases hd0 : lb l i.new < k
        · have : dn = true := by rw [hdn]; simpa using hd0
          subst this
          refine tl_opo (o_un rfl rfl) rfl rfl rfl rfl ?_; refine tl_opo (o_move rfl) rfl rfl rfl rfl ?_; refine tl_off0 rfl rfl rfl ?_; refine tl_off0 rfl rfl rfl ?_; refine tl_off0 rfl rfl rfl ?_; refine tl_off0 rfl rfl rfl ?_; refine tl_opo (o_pick rfl rfl rfl) rfl rfl rfl rfl ?_; refine tl_nil ?_
          refine tc_cond rfl (fun h => nomatch h) (fun _ => tc_skip ?_)
          exact ⟨(out, true, allTo l i.new v k), by (repeat' (first | exact wk_nil | refine wk_cons rfl ?_)), hTX, hTa, by simp only; omega, by simp; omega, allTo_gt hk' hd0⟩
        · have : dn = false := by rw [hdn]; simpa using hd0
          subst this
          refine tl_opo (o_un rfl rfl) rfl rfl rfl rfl ?_; refine tl_opo (o_move rfl) rfl rfl rfl rfl ?_; refine tl_opo (o_move rfl) rfl rfl rfl rfl ?_; refine tl_opo (o_faddr rfl) rfl rfl rfl rfl ?_
          refine tl_opo (o_load rfl hTX rfl (Nat.le_of_ble_eq_true rfl) rfl) rfl rfl rfl rfl ?_
          by_cases hlk : k < lb l i.new
          · have hlt := lb_lt hk' hlk
            refine tl_opo (o_lss' rfl rfl (t := false) (by simp; omega)) rfl rfl rfl rfl ?_
            refine tl_opo (o_pick rfl rfl rfl) rfl rfl rfl rfl ?_; refine tl_nil ?_
            refine tc_cond rfl (fun h => nomatch h) (fun _ => tc_skip ?_)
            exact ⟨(out, false, allTo l i.new v k), by (repeat' (first | exact wk_nil | refine wk_cons rfl ?_)), hTX, hTa, by simp only; omega, by simp; omega, allTo_lt hk' hlk⟩
          · have hkk : k = lb l i.new := by omega
            have hge := lb_ge (n := i.new) hr hk' (by omega)
            refine tl_opo (o_lss' rfl rfl (t := true) (by simp; omega)) rfl rfl rfl rfl ?_
            refine tl_opo (o_pick rfl rfl rfl) rfl rfl rfl rfl ?_; refine tl_nil ?_
            refine tc_cond rfl (fun _ => ?_) (fun h => nomatch h)
            refine tc_seq (tc_ops ?_)
            refine tl_opo (o_move rfl) rfl rfl rfl rfl ?_; refine tl_opo (o_move rfl) rfl rfl rfl rfl ?_; refine tl_opo (o_move rfl) rfl rfl rfl rfl ?_; refine tl_opo (o_build rfl rfl) rfl rfl rfl rfl ?_; refine tl_opo (o_buildSlice rfl rfl) rfl rfl rfl rfl ?_
            refine tl_acc3 rfl rfl hTa (new := encS [⟨i.new, v⟩]) rfl (by simp [encS]) rfl (by simp; omega) (by simp) rfl rfl ?_
            intro v' S' hacc' hlen hold
            refine tl_opo (o_move rfl) rfl rfl rfl rfl ?_; refine tl_nil ?_
            refine tc_ops ?_
            refine tl_opo (o_move rfl) rfl rfl rfl rfl ?_; refine tl_nil ?_
            refine ⟨(v', true, allTo l i.new v k ++ [⟨i.new, v⟩]), by (repeat' (first | exact wk_nil | refine wk_cons rfl ?_)), ?_, ?_, ?_, ?_, ?_⟩
            · rw [hold n19 hTl hTf]; exact hTX
            · simpa [encS] using hacc'
            · simp; omega
            · simp; omega
            · subst hkk; exact allTo_at hk'
      · rintro ⟨out2, dn2, pre⟩ T2 ⟨h1, h2, h3, h4, h5⟩
        refine (put out2 dn2 T2 pre h1 h2 h3 h4 h5).mono ?_
        rintro ex m2 S2 ⟨rfl, out3, hw, h6, h7⟩
        refine TC.weaken hw (tc_ops ?_)
        refine tl_opo (o_add rfl rfl (c := ((k + 1 : Nat) : Int)) (by simp) (by omega) (by omega)) rfl rfl rfl rfl ?_
        refine tl_opo (o_move rfl) rfl rfl rfl rfl ?_; refine tl_nil ?_
        exact ⟨(k + 1, out3, dn2), by simp only; omega, by (repeat' (first | exact wk_nil | refine wk_cons rfl ?_)), by simp only; omega, h6, h7⟩
    · have hk' : l.length ≤ k := by simpa using h
      have : k = l.length := by omega
      subst this
      exact ⟨(out, dn), by (repeat' (first | exact wk_nil | refine wk_cons rfl ?_)), hdn, hacc⟩
  · rintro ⟨av, dn⟩ S ⟨hdn, hacc⟩
    simp only at hdn hacc
    obtain ⟨all, hall⟩ : ∃ all, insL l i.new v = all := ⟨_, rfl⟩
    have hal : all.length = l.length + 1 := by rw [← hall]; exact insL_len _ _ _
    have hris : Rises all := by rw [← hall]; exact rises_ins hr hf
    have halle := allTo_le (l := l) (n := i.new) (v := v) (k := l.length)
    rw [hall]
    refine tc_cut (σ := Nat) (fun b => [(3, .int .u64 i.throw), (16, .view b 0 all.length false), (17, .bool dn)]) (fun b S => S[b]? = some (some ⟨2, encS all⟩)) ?_ ?_
    · refine tc_seq (tc_ops ?_)
      refine tl_opo (o_move rfl) rfl rfl rfl rfl ?_
      by_cases hlb : lb l i.new < l.length
      · have : dn = true := by rw [hdn]; simpa using hlb
        subst this
        refine tl_opo (o_un rfl rfl) rfl rfl rfl rfl ?_; refine tl_nil ?_
        refine tc_cond rfl (fun h => nomatch h) (fun _ => tc_skip ?_)
        rw [allTo_len hlb, hall] at hacc
        rcases hacc with ⟨_, h2⟩ | ⟨_, b, _, h3, h4⟩
        · have := congrArg List.length h2; rw [encS_len] at this; simp only [List.length_nil] at this; omega
        · subst h3
          exact ⟨b, by rw [encS_len]; (repeat' (first | exact wk_nil | refine wk_cons rfl ?_)), h4⟩
      · have : dn = false := by rw [hdn]; simpa using hlb
        subst this
        refine tl_opo (o_un rfl rfl) rfl rfl rfl rfl ?_; refine tl_nil ?_
        refine tc_cond rfl (fun _ => ?_) (fun h => nomatch h)
        refine tc_ops ?_
        refine tl_opo (o_move rfl) rfl rfl rfl rfl ?_; refine tl_opo (o_move rfl) rfl rfl rfl rfl ?_; refine tl_opo (o_move rfl) rfl rfl rfl rfl ?_; refine tl_opo (o_build rfl rfl) rfl rfl rfl rfl ?_; refine tl_opo (o_buildSlice rfl rfl) rfl rfl rfl rfl ?_
        refine tl_acc rfl rfl hacc (new := encS [⟨i.new, v⟩]) rfl (by simp [encS]) rfl (by simp; omega) (by simp) rfl rfl ?_
        intro v' S' hacc' hlen hold
        refine tl_opo (o_move rfl) rfl rfl rfl rfl ?_; refine tl_nil ?_
        have hee : encS (allTo l i.new v l.length) ++ encS [⟨i.new, v⟩] = encS all := by
          rw [← hall, ← allTo_end (show lb l i.new = l.length by omega)]; simp [encS]
        rw [hee] at hacc'
        rcases hacc' with ⟨_, h2⟩ | ⟨_, b, _, h3, h4⟩
        · have := congrArg List.length h2; rw [encS_len] at this; simp only [List.length_nil] at this; omega
        · subst h3
          exact ⟨b, by rw [encS_len]; (repeat' (first | exact wk_nil | refine wk_cons rfl ?_)), h4⟩
    · rintro b S hb
      have hbl : b < S.length := (List.getElem?_eq_some_iff.1 hb).1
      obtain ⟨c0, hc0⟩ : ∃ c0, min (below all i.throw) (all.length - 1) = c0 := ⟨_, rfl⟩
      have hc0l : c0 < all.length := by omega
      refine tc_seq (tc_ops ?_)
      refine tl_opo (o_move rfl) rfl rfl rfl rfl ?_; refine tl_nil ?_
      refine tc_cut (σ := Nat) (fun b2 => [(17, .bool dn), (20, .view b2 0 (all.length - c0) false)]) (fun b2 S => S[b2]? = some (some ⟨2, encS (all.drop c0)⟩)) ?_ ?_
      · refine tc_seq (tc_ops ?_)
        refine tl_opo (o_move rfl) rfl rfl rfl rfl ?_; refine tl_opo (o_len_view rfl) rfl rfl rfl rfl ?_; refine tl_opo (o_move rfl) rfl rfl rfl rfl ?_; refine tl_nil ?_
        refine tc_block (loop_st (σ := Nat × AVal) (fun s => all.length - s.1) (fun s => [(3, .int .u64 i.throw), (16, .view b 0 all.length false), (17, .bool dn), (20, s.2), (92, .view b 0 all.length false), (93, .int .i64 all.length), (94, .int .i64 (s.1 : Int))])
          (fun s S => s.1 ≤ all.length ∧ b < S.length ∧ S[b]? = some (some ⟨2, encS all⟩) ∧ Acc (b + 1) 2 S s.2 (encS (outTo all c0 s.1))) (0, .nils) (by (repeat' (first | exact wk_nil | refine wk_cons rfl ?_))) ⟨Nat.zero_le _, hbl, hb, .inl ⟨rfl, by simp [outTo, encS]⟩⟩ ?_)
        clear hb hbl
        rintro ⟨k, out⟩ S ⟨hk, hbl, hb, hacc⟩
        simp only at hk hbl hb hacc
        have hole := outTo_le (all := all) (c := c0) (k := k)
        refine tc_seq (tc_ops ?_)
        refine tl_opo (o_lss rfl rfl) rfl rfl rfl rfl ?_; refine tl_nil ?_
        refine tc_seq (tc_cond rfl (fun h => tc_skip ?_) (fun h => tc_exit ?_))
        · have hk' : k < all.length := by simpa using h
          clear h
          have hrow : (encS all)[0 + k]? = some all[k].row := by rw [Nat.zero_add]; exact encS_get hk'
          refine tc_seq (tc_block (tc_seq (tc_ops ?_)))
          refine tl_opo (o_move rfl) rfl rfl rfl rfl ?_
          refine tl_opo (o_iaddr_view rfl rfl hk' hb rfl) rfl rfl rfl rfl ?_
          refine tl_opo (o_load rfl hb hrow (Nat.le_of_ble_eq_true rfl) rfl) rfl rfl rfl rfl ?_
          refine tl_opn o_alloc rfl rfl rfl rfl ?_
          rw [set_snoc]
          refine tl_opo (o_move rfl) rfl rfl rfl rfl ?_
          refine tl_opo (o_store rfl rfl get_snoc rfl rfl rfl rfl (Nat.le_of_ble_eq_true rfl) rfl) rfl rfl rfl rfl ?_
          rw [set_snoc]
          refine tl_nil ?_
          generalize hT : S ++ [_] = T
          have hTX : T[S.length]? = some (some ⟨2, [all[k].row]⟩) := by rw [← hT]; exact get_snoc
          have hTb : T[b]? = some (some ⟨2, encS all⟩) := by rw [← hT]; exact get_app hb
          have hTa : Acc (b + 1) 2 T out (encS (outTo all c0 k)) := by rw [← hT]; exact hacc.snoc _
          have hTl : b < T.length := (List.getElem?_eq_some_iff.1 hTb).1
          clear hT hacc hb
          generalize S.length = n22 at hTX hbl
          clear S
          -- in, or out
          have yes : ∀ (m : FM), Wk m [(3, .int .u64 i.throw), (16, .view b 0 all.length false), (17, .bool dn), (20, out), (22, .ptr n22 0 0), (92, .view b 0 all.length false), (93, .int .i64 all.length), (94, .int .i64 (k : Int))] → c0 ≤ k →
              TC AP (max c35.nargs c35.N) (ACode.ops [⟨(some 110), (.move (.t 20)), none, []⟩, ⟨(some 111), (.load true 2 (.t 22)), none, []⟩, ⟨(some 112), (.buildSlice [(.int .u64 0), (.str [])] 2 1 [(0, (.t 111))]), none, []⟩, ⟨(some 113), (.append 2 24 (.t 110) (.t 112)), none, []⟩, ⟨(some 20), (.move (.t 113)), none, []⟩]) m T
                (fun ex m S => ex = .normal ∧ ∃ out3, Wk m [(3, .int .u64 i.throw), (16, .view b 0 all.length false), (17, .bool dn), (20, out3), (92, .view b 0 all.length false), (93, .int .i64 all.length), (94, .int .i64 (k : Int))] ∧ b < S.length ∧ S[b]? = some (some ⟨2, encS all⟩) ∧ Acc (b + 1) 2 S out3 (encS (outTo all c0 (k + 1)))) := by
            intro m hw hck
            refine TC.weaken hw (tc_ops ?_)
            refine tl_opo (o_move rfl) rfl rfl rfl rfl ?_
            refine tl_opo (o_load rfl hTX rfl (Nat.le_of_ble_eq_true rfl) rfl) rfl rfl rfl rfl ?_
            refine tl_opo (o_buildSlice rfl rfl) rfl rfl rfl rfl ?_
            refine tl_acc rfl rfl hTa (new := encS [all[k]]) rfl (by simp [encS]) rfl (by simp; omega) (by omega) rfl rfl ?_
            intro v' S' hacc' hlen hold
            refine tl_opo (o_move rfl) rfl rfl rfl rfl ?_; refine tl_nil ?_
            refine ⟨rfl, v', by (repeat' (first | exact wk_nil | refine wk_cons rfl ?_)), by omega, by rw [hold b (by omega)]; exact hTb, ?_⟩
            rw [outTo_in hk' hck]
            simpa [encS] using hacc'
          refine tc_seq (tc_ops ?_)
          refine tl_opo (o_faddr rfl) rfl rfl rfl rfl ?_
          refine tl_opo (o_load rfl hTX rfl (Nat.le_of_ble_eq_true rfl) rfl) rfl rfl rfl rfl ?_
          refine tl_opo (o_move rfl) rfl rfl rfl rfl ?_
          by_cases hge : all[k].num ≥ i.throw
          · have hck : c0 ≤ k := by
              rcases Nat.lt_or_ge k (below all i.throw) with h | h
              · have := below_lt hk' h; omega
              · omega
            refine tl_opo (o_geq' rfl rfl (t := true) (by simpa using hge)) rfl rfl rfl rfl ?_
            refine tl_opo (o_move rfl) rfl rfl rfl rfl ?_; refine tl_off0 rfl rfl rfl ?_; refine tl_off0 rfl rfl rfl ?_; refine tl_off0 rfl rfl rfl ?_; refine tl_off0 rfl rfl rfl ?_; refine tl_off0 rfl rfl rfl ?_; refine tl_opo (o_pick rfl rfl rfl) rfl rfl rfl rfl ?_; refine tl_nil ?_
            refine tc_cond rfl (fun _ => ?_) (fun h => nomatch h)
            refine (yes _ (by (repeat' (first | exact wk_nil | refine wk_cons rfl ?_))) hck).mono ?_
            rintro ex m2 S2 ⟨rfl, out3, hw, h5, h6, h7⟩
            refine TC.weaken hw (tc_ops ?_)
            refine tl_opo (o_add rfl rfl (c := ((k + 1 : Nat) : Int)) (by simp) (by omega) (by omega)) rfl rfl rfl rfl ?_
            refine tl_opo (o_move rfl) rfl rfl rfl rfl ?_; refine tl_nil ?_
            exact ⟨(k + 1, out3), by simp only; omega, by (repeat' (first | exact wk_nil | refine wk_cons rfl ?_)), by simp only; omega, h5, h6, h7⟩
          · have hkb : k < below all i.throw := by
              rcases Nat.lt_or_ge k (below all i.throw) with h | h
              · exact h
              · have := below_ge hris hk' h; omega
            refine tl_opo (o_geq' rfl rfl (t := false) (by simpa using hge)) rfl rfl rfl rfl ?_
            refine tl_opo (o_move rfl) rfl rfl rfl rfl ?_; refine tl_opo (o_move rfl) rfl rfl rfl rfl ?_; refine tl_opo (o_move rfl) rfl rfl rfl rfl ?_; refine tl_opo (o_len_view rfl) rfl rfl rfl rfl ?_
            refine tl_opo (o_sub rfl rfl (c := ((all.length - 1 : Nat) : Int)) (by omega) (by omega) (by omega)) rfl rfl rfl rfl ?_
            by_cases hlast : k = all.length - 1
            · refine tl_opo (o_eql' rfl rfl (t := true) (by simp; omega)) rfl rfl rfl rfl ?_
              refine tl_opo (o_pick rfl rfl rfl) rfl rfl rfl rfl ?_; refine tl_nil ?_
              refine tc_cond rfl (fun _ => ?_) (fun h => nomatch h)
              refine (yes _ (by (repeat' (first | exact wk_nil | refine wk_cons rfl ?_))) (by omega)).mono ?_
              rintro ex m2 S2 ⟨rfl, out3, hw, h5, h6, h7⟩
              refine TC.weaken hw (tc_ops ?_)
              refine tl_opo (o_add rfl rfl (c := ((k + 1 : Nat) : Int)) (by simp) (by omega) (by omega)) rfl rfl rfl rfl ?_
              refine tl_opo (o_move rfl) rfl rfl rfl rfl ?_; refine tl_nil ?_
              exact ⟨(k + 1, out3), by simp only; omega, by (repeat' (first | exact wk_nil | refine wk_cons rfl ?_)), by simp only; omega, h5, h6, h7⟩
            · refine tl_opo (o_eql' rfl rfl (t := false) (by simp; omega)) rfl rfl rfl rfl ?_
              refine tl_opo (o_pick rfl rfl rfl) rfl rfl rfl rfl ?_; refine tl_nil ?_
              refine tc_cond rfl (fun h => nomatch h) (fun _ => tc_skip ?_)
              refine tc_ops ?_
              refine tl_opo (o_add rfl rfl (c := ((k + 1 : Nat) : Int)) (by simp) (by omega) (by omega)) rfl rfl rfl rfl ?_
              refine tl_opo (o_move rfl) rfl rfl rfl rfl ?_; refine tl_nil ?_
              refine ⟨(k + 1, out), by simp only; omega, by (repeat' (first | exact wk_nil | refine wk_cons rfl ?_)), by simp only; omega, hTl, hTb, ?_⟩
              rw [outTo_out (by omega)]
              exact hTa
        · have hk' : all.length ≤ k := by simpa using h
          have : k = all.length := by omega
          subst this
          have hoe : outTo all c0 all.length = all.drop c0 := by unfold outTo; rw [List.take_of_length_le (Nat.le_refl _)]
          rw [hoe] at hacc
          rcases hacc with ⟨_, h2⟩ | ⟨_, b2, _, h3, h4⟩
          · have := congrArg List.length h2; simp at this; omega
          · subst h3
            exact ⟨b2, by rw [encS_len, List.length_drop]; (repeat' (first | exact wk_nil | refine wk_cons rfl ?_)), h4⟩
      · clear hb hbl
        rintro b2 S hb2
        refine tc_cut (σ := Nat) (fun o => [(17, .bool dn), (20, .view b2 o (all.length - c0 - o) false)]) (fun o S => S[b2]? = some (some ⟨2, encS (all.drop c0)⟩) ∧ o + c0 = cutAt all i.throw ∧ o ≤ 1) ?_ ?_
        · refine tc_block (loop_st (σ := Nat) (fun o => 1 - o) (fun o => [(17, .bool dn), (20, .view b2 o (all.length - c0 - o) false)])
            (fun o S => S[b2]? = some (some ⟨2, encS (all.drop c0)⟩) ∧ (o = 0 ∨ (o = 1 ∧ all.length - c0 = 9))) 0 (by (repeat' (first | exact wk_nil | refine wk_cons rfl ?_))) ⟨hb2, .inl rfl⟩ ?_)
          clear hb2
          rintro o S ⟨hb2, ho⟩
          refine tc_seq (tc_seq (tc_ops ?_))
          refine tl_opo (o_move rfl) rfl rfl rfl rfl ?_; refine tl_opo (o_len_view rfl) rfl rfl rfl rfl ?_
          by_cases h8 : all.length - c0 - o > 8
          · have ho0 : o = 0 := by omega
            subst ho0
            refine tl_opo (o_gtr' rfl rfl (t := true) (by simp; omega)) rfl rfl rfl rfl ?_
            refine tl_nil ?_
            refine tc_cond rfl (fun _ => tc_skip ?_) (fun h => nomatch h)
            refine tc_block (tc_ops ?_)
            refine tl_opo (o_move rfl) rfl rfl rfl rfl ?_
            refine tl_opo (o_slice_view (lo' := 1) (hi' := all.length - c0 - 0) (rows := encS (all.drop c0)) rfl hb2 (by simp) (loIs_some rfl) loIs_none (by omega) (by simp)) rfl rfl rfl rfl ?_
            refine tl_opo (o_move rfl) rfl rfl rfl rfl ?_; refine tl_nil ?_
            exact ⟨1, by omega, by (repeat' (first | exact wk_nil | refine wk_cons rfl ?_)), hb2, .inr ⟨rfl, by omega⟩⟩
          · refine tl_opo (o_gtr' rfl rfl (t := false) (by simp; omega)) rfl rfl rfl rfl ?_
            refine tl_nil ?_
            refine tc_cond rfl (fun h => nomatch h) (fun _ => tc_exit ?_)
            refine ⟨o, by (repeat' (first | exact wk_nil | refine wk_cons rfl ?_)), hb2, ?_, by omega⟩
            unfold cutAt
            omega
        · clear hb2
          rintro o S ⟨hb2, hoc, ho1⟩
          refine tc_seq (tc_ops ?_)
          refine tl_opo (o_move rfl) rfl rfl rfl rfl ?_; refine tl_opo (o_move rfl) rfl rfl rfl rfl ?_; refine tl_opo (o_un rfl rfl) rfl rfl rfl rfl ?_; refine tl_opo (o_move rfl) rfl rfl rfl rfl ?_; refine tl_opo (o_move rfl) rfl rfl rfl rfl ?_; refine tl_opo (o_move rfl) rfl rfl rfl rfl ?_; refine tl_nil ?_
          have hdn2 : (!dn) = decide (lb l i.new = l.length) := by
            rw [hdn, Bool.eq_iff_iff]; simp; omega
          rw [← hdn2]
          refine tc_ret (retd rfl ?_)
          refine frz_tuple (n := 5) (mapL_cons ⟨_, frz_view hb2 (by simp; omega) ?_ (encS_closed _)⟩ (mapL_cons ⟨_, frz_ok rfl⟩ (mapL_cons ⟨_, frz_ok rfl⟩ ⟨_, rfl⟩)))
          rw [List.take_of_length_le (by simp)]
          rw [← hoc, Nat.add_comm o c0, ← List.drop_drop]
          simp [encS, List.map_drop]

end Go.Eng.Recv

/- ReceiverTakes: what the machine answers. -/
namespace Go.Eng.Recv
open Go Go.Eng
attribute [local irreducible] OpR TL TD TC CallR

def QV (v : AVal) (l : List Sta) : Prop := v = .lim (encS l) ∨ v = .imm (encS l)
theorem QV.frz {v : AVal} {l : List Sta} (h : QV v l) {S : Store} (n : Nat) : ∃ ids, (Eng.frz (n + 1) v).run S = some (.imm (encS l), ids) := by
  rcases h with rfl | rfl
  · exact ⟨_, frz_lim (encS_closed l)⟩
  · exact ⟨_, frz_ok (by simp [AVal.closed])⟩
theorem QV.noref {v : AVal} {l : List Sta} (h : QV v l) : v.noref = true := by
  rcases h with rfl | rfl <;> simp [AVal.noref]

theorem o_eqB' {m : FM} {slot : Nat} {S : Store} {neg : Bool} {x y : AOpd} {a b t : Bool} (hx : lo m x = some (.bool a)) (hy : lo m y = some (.bool b)) (h : (if neg then !(a == b) else a == b) = t) : OpR AP m slot S (.eqB neg x y) (.bool t) S ([], []) := by
  subst h; exact o_eqB hx hy
theorem o_eqlS' {m : FM} {slot : Nat} {S : Store} {x y : AOpd} {a b : List UInt8} {t : Bool} (hx : lo m x = some (.str a)) (hy : lo m y = some (.str b)) (h : (a == b) = t) : OpR AP m slot S (.bin .eql x y) (.bool t) S ([], []) := by
  subst h; exact o_bin hx hy rfl

theorem takes_ok (first : List UInt8) (script : List Ins) (look : Int) : CallR AP 7 [.str first, .imm (encI script), .int .u64 look] (.bool true) := by
  refine callR_of (af := c7) rfl rfl ?_
  refine tc_seq (tc_ops ?_)
  refine tl_opo (o_move rfl) rfl rfl rfl rfl ?_; refine tl_nil ?_
  refine tc_seq (tc_seq (tc_ops ?_))
  refine tl_call' (as := []) (as' := []) rfl frzL_nil awake_ok rfl rfl rfl rfl rfl ?_
  refine tl_opo (o_un rfl rfl) rfl rfl rfl rfl ?_; refine tl_nil ?_
  refine tc_cond rfl (fun h => nomatch h) (fun _ => tc_skip ?_)
  refine tc_seq (tc_seq (tc_ops ?_))
  refine tl_opo (o_move rfl) rfl rfl rfl rfl ?_; refine tl_opo (o_len_imm rfl) rfl rfl rfl rfl ?_
  by_cases hn : script.length ≤ 60
  case neg =>
    refine tl_opo (o_gtr' rfl rfl (t := true) (by simp; omega)) rfl rfl rfl rfl ?_
    refine tl_opo (o_move rfl) rfl rfl rfl rfl ?_; refine tl_off0 rfl rfl rfl ?_; refine tl_off0 rfl rfl rfl ?_; refine tl_off0 rfl rfl rfl ?_; refine tl_opo (o_pick rfl rfl rfl) rfl rfl rfl rfl ?_; refine tl_nil ?_
    refine tc_cond rfl (fun _ => ?_) (fun h => nomatch h)
    refine tc_seq (tc_ops ?_)
    refine tl_opo (o_move rfl) rfl rfl rfl rfl ?_; refine tl_nil ?_
    exact tc_ret (retd rfl ⟨_, frz_ok rfl⟩)
  refine tl_opo (o_gtr' rfl rfl (t := false) (by simp; omega)) rfl rfl rfl rfl ?_
  refine tl_opo (o_move rfl) rfl rfl rfl rfl ?_; refine tl_opo (o_move rfl) rfl rfl rfl rfl ?_
  refine tl_opo (o_len_str rfl) rfl rfl rfl rfl ?_
  by_cases hfl : first.length ≤ 60
  case neg =>
    refine tl_opo (o_gtr' rfl rfl (t := true) (by simp; omega)) rfl rfl rfl rfl ?_
    refine tl_opo (o_pick rfl rfl rfl) rfl rfl rfl rfl ?_; refine tl_nil ?_
    refine tc_cond rfl (fun _ => ?_) (fun h => nomatch h)
    refine tc_seq (tc_ops ?_)
    refine tl_opo (o_move rfl) rfl rfl rfl rfl ?_; refine tl_nil ?_
    exact tc_ret (retd rfl ⟨_, frz_ok rfl⟩)
  refine tl_opo (o_gtr' rfl rfl (t := false) (by simp; omega)) rfl rfl rfl rfl ?_
  refine tl_opo (o_pick rfl rfl rfl) rfl rfl rfl rfl ?_; refine tl_nil ?_
  refine tc_cond rfl (fun h => nomatch h) (fun _ => tc_skip ?_)
  refine tc_seq (tc_ops ?_)
  refine tl_opo (o_move rfl) rfl rfl rfl rfl ?_
  refine tl_call' (as := []) (as' := []) rfl frzL_nil rule0_ok rfl rfl rfl rfl rfl ?_
  refine tl_call' (as := [.str first, .agg [ruleV]]) (as' := [.str first, .agg [ruleV]]) rfl (frzL_cons (fun n => ⟨_, frz_ok rfl⟩) (frzL_cons (fun n => ⟨_, frz_ok rfl⟩) frzL_nil)) (new_ok first) rfl rfl rfl rfl rfl ?_
  refine tl_opn o_alloc rfl rfl rfl rfl ?_; refine tl_opo (o_store rfl rfl rfl rfl rfl rfl rfl (Nat.le_of_ble_eq_true rfl) rfl) rfl rfl rfl rfl ?_; refine tl_nil ?_
  dsimp only [putM, initM, acells, effS, List.nil_append, List.cons_append, List.length_nil, List.length_cons, List.set_cons_zero, List.set_cons_succ, List.set_nil, List.append_nil, Nat.zero_add, Nat.add_zero, Nat.reduceAdd, List.replicate, nslots]
  refine tc_seq (tc_ops ?_)
  refine tl_opo (o_move rfl) rfl rfl rfl rfl ?_; refine tl_opo (o_build rfl rfl) rfl rfl rfl rfl ?_; refine tl_opo (o_buildSlice rfl rfl) rfl rfl rfl rfl ?_; refine tl_opo (o_move rfl) rfl rfl rfl rfl ?_; refine tl_nil ?_
  dsimp only [putM, initM, acells, effS, List.nil_append, List.cons_append, List.length_nil, List.length_cons, List.set_cons_zero, List.set_cons_succ, List.set_nil, List.append_nil, Nat.zero_add, Nat.add_zero, Nat.reduceAdd, List.replicate, nslots]
  refine tc_cut (σ := List Sta × AVal) (fun s => [(2, .int .u64 look), (7, .ptr 3 0 0), (8, s.2)]) (fun s S => (∃ B, Ok s.1 B) ∧ QV s.2 s.1 ∧ S[3]? = some (some ⟨2, [[ruleV, .imm (encS s.1)]]⟩)) ?_ ?_
  · refine tc_seq (tc_ops ?_)
    refine tl_opo (o_move rfl) rfl rfl rfl rfl ?_; refine tl_opo (o_len_imm rfl) rfl rfl rfl rfl ?_; refine tl_opo (o_move rfl) rfl rfl rfl rfl ?_; refine tl_nil ?_
    refine tc_block (loop_st (σ := Nat × List Sta × AVal) (fun s => script.length - s.1) (fun s => [(2, .int .u64 look), (7, .ptr 3 0 0), (8, s.2.2), (44, .imm (encI script)), (45, .int .i64 (encI script).length), (46, .int .i64 s.1)])
      (fun s S => s.1 ≤ script.length ∧ Ok s.2.1 (60 + 60 * s.1) ∧ QV s.2.2 s.2.1 ∧ S[3]? = some (some ⟨2, [[ruleV, .imm (encS s.2.1)]]⟩)) (0, [⟨0, first⟩], .lim (encS [⟨0, first⟩])) (by (repeat' (first | exact wk_nil | refine wk_cons rfl ?_))) ⟨Nat.zero_le _, ok_new hfl, .inl rfl, rfl⟩ ?_)
    rintro ⟨i, l, q⟩ S ⟨hi, hok, hq, hS⟩
    simp only at hi hok hq hS
    refine tc_seq (tc_ops ?_)
    refine tl_opo (o_lss rfl rfl) rfl rfl rfl rfl ?_; refine tl_nil ?_
    refine tc_seq (tc_cond rfl (fun h => tc_skip ?_) (fun h => tc_exit ?_))
    · have hi' : i < script.length := by simpa using h
      clear h
      generalize hact : script[i] = act
      have hrow : (encI script)[i]? = some act.row := by rw [encI_get hi', hact]
      refine tc_seq (tc_block (tc_seq (tc_ops ?_)))
      refine tl_opo (o_iaddr rfl rfl hrow rfl) rfl rfl rfl rfl ?_
      refine tl_opo (o_loadr rfl (Nat.le_of_ble_eq_true rfl) rfl) rfl rfl rfl rfl ?_
      refine tl_opn o_alloc rfl rfl rfl rfl ?_
      rw [set_snoc]
      refine tl_opo (o_store rfl rfl get_snoc rfl rfl rfl rfl (Nat.le_of_ble_eq_true rfl) rfl) rfl rfl rfl rfl ?_
      rw [set_snoc]
      refine tl_nil ?_
      generalize hT : S ++ [_] = T
      have hTX : T[S.length]? = some (some ⟨5, [act.row]⟩) := by rw [← hT]; exact get_snoc
      have hT3 : T[3]? = some (some ⟨2, [[ruleV, .imm (encS l)]]⟩) := by rw [← hT]; exact get_app hS
      clear hT
      have hS3 : 3 < S.length := (List.getElem?_eq_some_iff.1 hS).1
      clear hS
      generalize S.length = n7 at hTX hS3
      clear S
      refine tc_seq (tc_seq (tc_ops ?_))
      refine tl_opo (o_faddr rfl) rfl rfl rfl rfl ?_
      refine tl_opo (o_load rfl hTX rfl (Nat.le_of_ble_eq_true rfl) rfl) rfl rfl rfl rfl ?_
      refine tl_opo (o_len_str rfl) rfl rfl rfl rfl ?_
      by_cases hdl : act.diff.length ≤ 60
      case neg =>
        refine tl_opo (o_gtr' rfl rfl (t := true) (by simp; omega)) rfl rfl rfl rfl ?_
        refine tl_nil ?_
        refine tc_cond rfl (fun _ => ?_) (fun h => nomatch h)
        refine tc_seq (tc_ops ?_)
        refine tl_opo (o_move rfl) rfl rfl rfl rfl ?_; refine tl_nil ?_
        exact tc_ret (retd rfl ⟨_, frz_ok rfl⟩)
      refine tl_opo (o_gtr' rfl rfl (t := false) (by simp; omega)) rfl rfl rfl rfl ?_
      refine tl_nil ?_
      refine tc_cond rfl (fun h => nomatch h) (fun _ => tc_skip ?_)
      have hlen := hok.len
      have hcall := take_ok l act hok.ne (by omega) hok.rises (fun s hs => by have := hok.tx s hs; omega)
      have hrcall := rtake_ok l act hok.ne hok.len hok.rises (fun s hs => by have := hok.tx s hs; omega)
      have hok' := hok.take act
      obtain ⟨l', last, e, htk⟩ : ∃ l' last e, takeR l act = (l', last, e) := ⟨_, _, _, rfl⟩
      rw [htk] at hcall hrcall hok'
      simp only at hcall hrcall hok'
      have hlen' := hok'.len
      have hnum := numbers_ok l (by omega)
      have hnum' := numbers_ok l' (by omega)
      have heq := equalN_ok (nums l) (nums l) (by simp; omega)
      rw [decide_eq_true rfl] at heq
      -- the numbers ahead
      refine tc_seq (tc_ops ?_)
      refine tl_opo (o_load rfl hT3 rfl (Nat.le_of_ble_eq_true rfl) rfl) rfl rfl rfl rfl ?_
      refine tl_call' (as := [recvV l]) (as' := [recvV l]) rfl (frzL_cons (fun n => ⟨_, frz_ok (recvV_closed l)⟩) frzL_nil) hnum (by simp [norefL, AVal.noref]) rfl rfl rfl rfl ?_
      refine tl_opo (o_move rfl) rfl rfl rfl rfl ?_; refine tl_nil ?_
      -- Take
      refine tc_seq (tc_ops ?_)
      refine tl_opo (o_load rfl (get_app hT3) rfl (Nat.le_of_ble_eq_true rfl) rfl) rfl rfl rfl rfl ?_
      refine tl_opo (o_load rfl (get_app hTX) rfl (Nat.le_of_ble_eq_true rfl) rfl) rfl rfl rfl rfl ?_
      refine tl_call' (as := [recvV l, .agg act.row]) (as' := [recvV l, .agg act.row]) rfl (frzL_cons (fun n => ⟨_, frz_ok (recvV_closed l)⟩) (frzL_cons (fun n => ⟨_, frz_ok rfl⟩) frzL_nil))
        hcall (by simp [norefL, AVal.noref, Ins.row]) rfl rfl rfl rfl ?_
      refine tl_opo (o_move rfl) rfl rfl rfl rfl ?_; refine tl_opo (o_extract rfl rfl) rfl rfl rfl rfl ?_; refine tl_opo (o_extract rfl rfl) rfl rfl rfl rfl ?_; refine tl_opo (o_extract rfl rfl) rfl rfl rfl rfl ?_
      generalize hU : T ++ [none] ++ [none] = U
      have hUX : U[n7]? = some (some ⟨5, [act.row]⟩) := by rw [← hU]; exact get_app (get_app hTX)
      have hU3 : U[3]? = some (some ⟨2, [[ruleV, .imm (encS l)]]⟩) := by rw [← hU]; exact get_app (get_app hT3)
      have hTU : U.length = T.length + 2 := by rw [← hU]; simp
      have hnT : n7 < T.length := (List.getElem?_eq_some_iff.1 hTX).1
      clear hU hTX hT3
      refine tl_opn o_alloc rfl rfl rfl rfl ?_
      rw [set_snoc]
      refine tl_opo (o_store rfl rfl get_snoc rfl rfl rfl rfl (Nat.le_of_ble_eq_true rfl) rfl) rfl rfl rfl rfl ?_
      rw [set_snoc]
      refine tl_opo (o_move rfl) rfl rfl rfl rfl ?_; refine tl_opo (o_move rfl) rfl rfl rfl rfl ?_; refine tl_nil ?_
      generalize hV : U ++ [_] = V
      have hVX : V[n7]? = some (some ⟨5, [act.row]⟩) := by rw [← hV]; exact get_app hUX
      have hV3 : V[3]? = some (some ⟨2, [[ruleV, .imm (encS l)]]⟩) := by rw [← hV]; exact get_app hU3
      have hVY : V[U.length]? = some (some ⟨2, [[ruleV, .imm (encS l')]]⟩) := by rw [← hV]; exact get_snoc
      have hn8 : 3 < U.length := by omega
      clear hV hUX hU3 hTU hnT
      generalize U.length = n8 at hVY hn8
      clear T U
      -- the document's
      refine tc_seq (tc_ops ?_)
      refine tl_opo (o_move rfl) rfl rfl rfl rfl ?_; refine tl_opo (o_faddr rfl) rfl rfl rfl rfl ?_
      refine tl_opo (o_load rfl hVX rfl (Nat.le_of_ble_eq_true rfl) rfl) rfl rfl rfl rfl ?_
      refine tl_opo (o_faddr rfl) rfl rfl rfl rfl ?_
      refine tl_opo (o_load rfl hVX rfl (Nat.le_of_ble_eq_true rfl) rfl) rfl rfl rfl rfl ?_
      refine tl_opo (o_faddr rfl) rfl rfl rfl rfl ?_
      refine tl_opo (o_load rfl hVX rfl (Nat.le_of_ble_eq_true rfl) rfl) rfl rfl rfl rfl ?_
      refine tl_opo (o_faddr rfl) rfl rfl rfl rfl ?_
      refine tl_opo (o_load rfl hVX rfl (Nat.le_of_ble_eq_true rfl) rfl) rfl rfl rfl rfl ?_
      refine tl_call' (as := [q, .int .u64 act.old, .int .u64 act.new, .int .u64 act.throw, .str act.diff]) (as' := [.imm (encS l), .int .u64 act.old, .int .u64 act.new, .int .u64 act.throw, .str act.diff]) rfl
        (frzL_cons (fun n => hq.frz (n + 2)) (frzL_cons (fun n => ⟨_, frz_ok rfl⟩) (frzL_cons (fun n => ⟨_, frz_ok rfl⟩) (frzL_cons (fun n => ⟨_, frz_ok rfl⟩) (frzL_cons (fun n => ⟨_, frz_ok rfl⟩) frzL_nil)))))
        hrcall (by simp [norefL, AVal.noref, hq.noref]) rfl rfl rfl rfl ?_
      refine tl_opo (o_move rfl) rfl rfl rfl rfl ?_; refine tl_opo (o_extract rfl rfl) rfl rfl rfl rfl ?_; refine tl_opo (o_extract rfl rfl) rfl rfl rfl rfl ?_; refine tl_opo (o_extract rfl rfl) rfl rfl rfl rfl ?_; refine tl_opo (o_move rfl) rfl rfl rfl rfl ?_; refine tl_opo (o_move rfl) rfl rfl rfl rfl ?_; refine tl_opo (o_move rfl) rfl rfl rfl rfl ?_; refine tl_nil ?_
      refine tc_seq (tc_seq (tc_ops ?_))
      refine tl_opo (o_move rfl) rfl rfl rfl rfl ?_; refine tl_opo (o_move rfl) rfl rfl rfl rfl ?_
      refine tl_opo (o_eqB' rfl rfl (t := false) (by simp)) rfl rfl rfl rfl ?_
      refine tl_opo (o_move rfl) rfl rfl rfl rfl ?_; refine tl_opo (o_move rfl) rfl rfl rfl rfl ?_; refine tl_opo (o_move rfl) rfl rfl rfl rfl ?_
      refine tl_opo (o_neq' rfl rfl (t := false) (by simp)) rfl rfl rfl rfl ?_
      refine tl_opo (o_pick rfl rfl rfl) rfl rfl rfl rfl ?_; refine tl_opo (o_move rfl) rfl rfl rfl rfl ?_
      refine tl_opo (o_load rfl (get_app hV3) rfl (Nat.le_of_ble_eq_true rfl) rfl) rfl rfl rfl rfl ?_
      refine tl_call' (as := [recvV l]) (as' := [recvV l]) rfl (frzL_cons (fun n => ⟨_, frz_ok (recvV_closed l)⟩) frzL_nil) hnum (by simp [norefL, AVal.noref]) rfl rfl rfl rfl ?_
      refine tl_opo (o_move rfl) rfl rfl rfl rfl ?_
      refine tl_call' (as := [.imm (encN (nums l)), .imm (encN (nums l))]) (as' := [.imm (encN (nums l)), .imm (encN (nums l))]) rfl (frzL_cons (fun n => ⟨_, frz_ok (by simp [AVal.closed])⟩) (frzL_cons (fun n => ⟨_, frz_ok (by simp [AVal.closed])⟩) frzL_nil)) heq (by simp [AVal.flat]) rfl rfl rfl rfl ?_
      refine tl_opo (o_un rfl rfl) rfl rfl rfl rfl ?_; refine tl_opo (o_pick rfl rfl rfl) rfl rfl rfl rfl ?_; refine tl_nil ?_
      refine tc_cond rfl (fun h => nomatch h) (fun _ => tc_skip ?_)
      -- on with the new ones
      refine tc_seq (tc_ops ?_)
      refine tl_opo (o_load rfl (get_app (get_app (get_app hVY))) rfl (Nat.le_of_ble_eq_true rfl) rfl) rfl rfl rfl rfl ?_
      refine tl_opo (o_move rfl) rfl rfl rfl rfl ?_
      refine tl_opo (o_store rfl rfl (get_app (get_app (get_app hV3))) rfl rfl rfl rfl (Nat.le_of_ble_eq_true rfl) rfl) rfl rfl rfl rfl ?_
      generalize hW : (V ++ [none] ++ [none] ++ [none]).set 3 _ = W
      have hW3 : W[3]? = some (some ⟨2, [[ruleV, .imm (encS l')]]⟩) := by rw [← hW, set_get, if_pos ⟨rfl, (List.getElem?_eq_some_iff.1 (get_app (get_app (get_app hV3)))).1⟩]; rfl
      clear hW hVX hV3 hVY
      refine tl_opo (o_move rfl) rfl rfl rfl rfl ?_; refine tl_nil ?_
      refine tc_seq (tc_ops ?_)
      refine tl_opo (o_load rfl hW3 rfl (Nat.le_of_ble_eq_true rfl) rfl) rfl rfl rfl rfl ?_
      refine tl_call' (as := [recvV l']) (as' := [recvV l']) rfl (frzL_cons (fun n => ⟨_, frz_ok (recvV_closed l')⟩) frzL_nil) hnum' (by simp [norefL, AVal.noref]) rfl rfl rfl rfl ?_
      refine tl_opo (o_move rfl) rfl rfl rfl rfl ?_; refine tl_nil ?_
      refine tc_seq (tc_seq (tc_ops ?_))
      refine tl_opo (o_move rfl) rfl rfl rfl rfl ?_; refine tl_opo (o_len_imm rfl) rfl rfl rfl rfl ?_; refine tl_opo (o_move rfl) rfl rfl rfl rfl ?_; refine tl_opo (o_len_imm rfl) rfl rfl rfl rfl ?_
      refine tl_opo (o_neq' rfl rfl (t := false) (by simp)) rfl rfl rfl rfl ?_
      refine tl_nil ?_
      refine tc_cond rfl (fun h => nomatch h) (fun _ => tc_skip ?_)
      refine tc_cut (σ := Unit) (fun _ => [(2, .int .u64 look), (7, .ptr 3 0 0), (8, .imm (encS l')), (44, .imm (encI script)), (45, .int .i64 (encI script).length), (46, .int .i64 i)]) (fun _ S => S[3]? = some (some ⟨2, [[ruleV, .imm (encS l')]]⟩)) ?_ ?_
      · refine tc_seq (tc_ops ?_)
        refine tl_opo (o_move rfl) rfl rfl rfl rfl ?_; refine tl_opo (o_len_imm rfl) rfl rfl rfl rfl ?_; refine tl_opo (o_move rfl) rfl rfl rfl rfl ?_; refine tl_nil ?_
        refine tc_block (loop_st (σ := Nat) (fun k => l'.length - k) (fun k => [(2, .int .u64 look), (7, .ptr 3 0 0), (8, .imm (encS l')), (18, .imm (encN (nums l'))), (44, .imm (encI script)), (45, .int .i64 (encI script).length), (46, .int .i64 i), (101, .imm (encS l')), (102, .int .i64 (encS l').length), (103, .int .i64 (k : Int))])
          (fun k S => k ≤ l'.length ∧ S[3]? = some (some ⟨2, [[ruleV, .imm (encS l')]]⟩)) 0 (by (repeat' (first | exact wk_nil | refine wk_cons rfl ?_))) ⟨Nat.zero_le _, get_app hW3⟩ ?_)
        rintro k S ⟨hk, hS⟩
        refine tc_seq (tc_ops ?_)
        refine tl_opo (o_lss rfl rfl) rfl rfl rfl rfl ?_; refine tl_nil ?_
        refine tc_seq (tc_cond rfl (fun h => tc_skip ?_) (fun h => tc_exit ?_))
        · have hk' : k < l'.length := by simpa using h
          clear h
          obtain ⟨hf, hx⟩ := ofTx_mem hok'.rises (List.getElem_mem hk')
          have hof := of_ok l' l'[k].num (by omega) hok'.rises
          rw [hf, hx] at hof
          refine tc_seq (tc_block (tc_seq (tc_ops ?_)))
          refine tl_opo (o_move rfl) rfl rfl rfl rfl ?_
          refine tl_opo (o_iaddr rfl rfl (encS_get hk') rfl) rfl rfl rfl rfl ?_
          refine tl_opo (o_loadr rfl (Nat.le_of_ble_eq_true rfl) rfl) rfl rfl rfl rfl ?_
          refine tl_opn o_alloc rfl rfl rfl rfl ?_
          rw [set_snoc]
          refine tl_opo (o_move rfl) rfl rfl rfl rfl ?_
          refine tl_opo (o_store rfl rfl get_snoc rfl rfl rfl rfl (Nat.le_of_ble_eq_true rfl) rfl) rfl rfl rfl rfl ?_
          rw [set_snoc]
          refine tl_nil ?_
          generalize hT : S ++ [_] = T
          have hTX : T[S.length]? = some (some ⟨2, [l'[k].row]⟩) := by rw [← hT]; exact get_snoc
          have hT3 : T[3]? = some (some ⟨2, [[ruleV, .imm (encS l')]]⟩) := by rw [← hT]; exact get_app hS
          clear hT hS
          generalize S.length = n20 at hTX
          refine tc_seq (tc_ops ?_)
          refine tl_opo (o_load rfl hT3 rfl (Nat.le_of_ble_eq_true rfl) rfl) rfl rfl rfl rfl ?_
          refine tl_opo (o_faddr rfl) rfl rfl rfl rfl ?_
          refine tl_opo (o_load rfl hTX rfl (Nat.le_of_ble_eq_true rfl) rfl) rfl rfl rfl rfl ?_
          refine tl_call' (as := [recvV l', .int .u64 l'[k].num]) (as' := [recvV l', .int .u64 l'[k].num]) rfl (frzL_cons (fun n => ⟨_, frz_ok (recvV_closed l')⟩) (frzL_cons (fun n => ⟨_, frz_ok rfl⟩) frzL_nil)) hof (by simp [norefL, AVal.noref]) rfl rfl rfl rfl ?_
          refine tl_opo (o_move rfl) rfl rfl rfl rfl ?_; refine tl_opo (o_extract rfl rfl) rfl rfl rfl rfl ?_; refine tl_opo (o_extract rfl rfl) rfl rfl rfl rfl ?_; refine tl_opo (o_move rfl) rfl rfl rfl rfl ?_; refine tl_opo (o_move rfl) rfl rfl rfl rfl ?_; refine tl_nil ?_
          have hnk : (encN (nums l'))[k]? = some [.int .u64 l'[k].num] := by rw [encN_get (by simpa using hk')]; simp [nums]
          refine tc_seq (tc_drawR [] rfl ?_)
          refine td_op rfl rfl (o_move rfl) ?_; refine td_op rfl rfl (o_move rfl) ?_
          refine td_op rfl rfl (o_iaddr rfl rfl hnk rfl) ?_
          refine td_op rfl rfl (o_loadr rfl (Nat.le_of_ble_eq_true rfl) rfl) ?_; refine td_op rfl rfl (o_faddr rfl) ?_
          refine td_op rfl rfl (o_load rfl (get_app (get_app hTX)) rfl (Nat.le_of_ble_eq_true rfl) rfl) ?_
          refine td_op rfl rfl (o_neq' rfl rfl (t := false) (by simp)) ?_
          refine td_op rfl rfl (o_move rfl) ?_; refine td_op rfl rfl (o_move rfl) ?_; refine td_op rfl rfl (o_un rfl rfl) ?_; refine td_op rfl rfl (o_pick rfl rfl rfl) ?_; refine td_op rfl rfl (o_move rfl) ?_; refine td_op rfl rfl (o_move rfl) ?_; refine td_op rfl rfl (o_faddr rfl) ?_
          refine td_op rfl rfl (o_load rfl (get_app (get_app hTX)) rfl (Nat.le_of_ble_eq_true rfl) rfl) ?_
          refine td_op rfl rfl (o_neqS' rfl rfl (t := false) (by simp)) ?_
          refine td_op rfl rfl (o_pick rfl rfl rfl) ?_; refine td_nil ?_
          refine ⟨rfl, ?_⟩
          refine tc_cond rfl (fun h => nomatch h) (fun _ => tc_skip ?_)
          refine tc_ops ?_
          refine tl_opo (o_add rfl rfl (c := ((k + 1 : Nat) : Int)) (by simp) (by omega) (by omega)) rfl rfl rfl rfl ?_
          refine tl_opo (o_move rfl) rfl rfl rfl rfl ?_; refine tl_nil ?_
          exact ⟨k + 1, by omega, by (repeat' (first | exact wk_nil | refine wk_cons rfl ?_)), by omega, get_app (get_app hT3)⟩
        · exact ⟨(), by (repeat' (first | exact wk_nil | refine wk_cons rfl ?_)), hS⟩
      · rintro - S hS
        obtain ⟨m, hm⟩ : ∃ m, l'.length = m + 1 := ⟨l'.length - 1, by have := List.length_pos_iff.2 hok'.ne; omega⟩
        refine tc_seq (tc_ops ?_)
        refine tl_opo (o_load rfl hS rfl (Nat.le_of_ble_eq_true rfl) rfl) rfl rfl rfl rfl ?_
        refine tl_call' (as := [recvV l']) (as' := [recvV l']) rfl (frzL_cons (fun n => ⟨_, frz_ok (recvV_closed l')⟩) frzL_nil)
          (latest_ok l' m hm (by omega)) (by simp [norefL, AVal.noref]) rfl rfl rfl rfl ?_
        refine tl_opo (o_move rfl) rfl rfl rfl rfl ?_; refine tl_opo (o_extract rfl rfl) rfl rfl rfl rfl ?_; refine tl_opo (o_extract rfl rfl) rfl rfl rfl rfl ?_; refine tl_opo (o_move rfl) rfl rfl rfl rfl ?_; refine tl_opo (o_move rfl) rfl rfl rfl rfl ?_; refine tl_nil ?_
        refine tc_seq (tc_ops ?_)
        refine tl_opo (o_move rfl) rfl rfl rfl rfl ?_; refine tl_opo (o_move rfl) rfl rfl rfl rfl ?_; refine tl_opo (o_move rfl) rfl rfl rfl rfl ?_; refine tl_opo (o_len_imm rfl) rfl rfl rfl rfl ?_
        refine tl_opo (o_sub rfl rfl (c := (m : Int)) (by simp; omega) (by omega) (by omega)) rfl rfl rfl rfl ?_
        refine tl_opo (o_iaddr rfl rfl (encS_get (by omega)) rfl) rfl rfl rfl rfl ?_
        refine tl_opo (o_faddrr rfl) rfl rfl rfl rfl ?_; refine tl_opo (o_loadr rfl (Nat.le_of_ble_eq_true rfl) rfl) rfl rfl rfl rfl ?_
        refine tl_opo (o_neq' rfl rfl (t := false) (by simp)) rfl rfl rfl rfl ?_
        refine tl_opo (o_move rfl) rfl rfl rfl rfl ?_; refine tl_opo (o_move rfl) rfl rfl rfl rfl ?_; refine tl_opo (o_move rfl) rfl rfl rfl rfl ?_; refine tl_opo (o_move rfl) rfl rfl rfl rfl ?_; refine tl_opo (o_len_imm rfl) rfl rfl rfl rfl ?_
        refine tl_opo (o_sub rfl rfl (c := (m : Int)) (by simp; omega) (by omega) (by omega)) rfl rfl rfl rfl ?_
        refine tl_opo (o_iaddr rfl rfl (encS_get (by omega)) rfl) rfl rfl rfl rfl ?_
        refine tl_opo (o_faddrr rfl) rfl rfl rfl rfl ?_; refine tl_opo (o_loadr rfl (Nat.le_of_ble_eq_true rfl) rfl) rfl rfl rfl rfl ?_
        refine tl_opo (o_neqS' rfl rfl (t := false) (by simp)) rfl rfl rfl rfl ?_
        refine tl_opo (o_pick rfl rfl rfl) rfl rfl rfl rfl ?_; refine tl_nil ?_
        refine tc_cond rfl (fun h => nomatch h) (fun _ => tc_skip ?_)
        refine tc_ops ?_
        refine tl_opo (o_add rfl rfl (c := ((i + 1 : Nat) : Int)) (by simp) (by omega) (by omega)) rfl rfl rfl rfl ?_
        refine tl_opo (o_move rfl) rfl rfl rfl rfl ?_; refine tl_nil ?_
        refine ⟨(i + 1, l', .imm (encS l')), by simp only; omega, by (repeat' (first | exact wk_nil | refine wk_cons rfl ?_)), by simp only; omega, ⟨hok'.ne, hok'.len, hok'.rises, fun s hs => by have := hok'.tx s hs; simp only; omega⟩, .inr rfl, get_app hS⟩
    · exact ⟨(l, q), by (repeat' (first | exact wk_nil | refine wk_cons rfl ?_)), ⟨_, hok⟩, hq, hS⟩
  · rintro ⟨l, q⟩ S ⟨⟨B, hok⟩, hq, hS⟩
    simp only at hok hq hS
    have hlen := hok.len
    refine tc_seq (tc_ops ?_)
    refine tl_opo (o_load rfl hS rfl (Nat.le_of_ble_eq_true rfl) rfl) rfl rfl rfl rfl ?_
    refine tl_opo (o_move rfl) rfl rfl rfl rfl ?_
    refine tl_call' (as := [recvV l, .int .u64 look]) (as' := [recvV l, .int .u64 look]) rfl (frzL_cons (fun n => ⟨_, frz_ok (recvV_closed l)⟩) (frzL_cons (fun n => ⟨_, frz_ok rfl⟩) frzL_nil)) (of_ok l look (by omega) hok.rises) (by simp [norefL, AVal.noref]) rfl rfl rfl rfl ?_
    refine tl_opo (o_move rfl) rfl rfl rfl rfl ?_; refine tl_opo (o_extract rfl rfl) rfl rfl rfl rfl ?_; refine tl_opo (o_extract rfl rfl) rfl rfl rfl rfl ?_; refine tl_opo (o_move rfl) rfl rfl rfl rfl ?_; refine tl_opo (o_move rfl) rfl rfl rfl rfl ?_; refine tl_nil ?_
    refine tc_seq (tc_ops ?_)
    refine tl_opo (o_move rfl) rfl rfl rfl rfl ?_; refine tl_opo (o_move rfl) rfl rfl rfl rfl ?_
    refine tl_call' (as := [q, .int .u64 look]) (as' := [.imm (encS l), .int .u64 look]) rfl (frzL_cons (fun n => hq.frz (n + 2)) (frzL_cons (fun n => ⟨_, frz_ok rfl⟩) frzL_nil)) (find_ok l look (by omega) hok.rises) (by simp [norefL, AVal.noref, hq.noref]) rfl rfl rfl rfl ?_
    refine tl_opo (o_move rfl) rfl rfl rfl rfl ?_; refine tl_nil ?_
    refine tc_seq (tc_ops ?_)
    refine tl_opo (o_move rfl) rfl rfl rfl rfl ?_; refine tl_opo (o_move rfl) rfl rfl rfl rfl ?_
    cases hf : found l look with
    | true =>
      have hfr : findR l look = (lb l look : Int) := by unfold findR; rw [hf]; rfl
      rw [hfr]
      refine tl_opo (o_geq' rfl rfl (t := true) (by simp)) rfl rfl rfl rfl ?_
      refine tl_opo (o_eqB' rfl rfl (t := true) rfl) rfl rfl rfl rfl ?_
      refine tl_opo (o_move rfl) rfl rfl rfl rfl ?_; refine tl_opo (o_move rfl) rfl rfl rfl rfl ?_; refine tl_opo (o_move rfl) rfl rfl rfl rfl ?_; refine tl_off0 rfl rfl rfl ?_; refine tl_off0 rfl rfl rfl ?_; refine tl_opo (o_pick rfl rfl rfl) rfl rfl rfl rfl ?_; refine tl_opo (o_pick rfl rfl rfl) rfl rfl rfl rfl ?_; refine tl_opo (o_move rfl) rfl rfl rfl rfl ?_; refine tl_nil ?_
      exact tc_ret (retd rfl ⟨_, frz_ok rfl⟩)
    | false =>
      have hfr : findR l look = -1 := by unfold findR; rw [hf]; rfl
      rw [hfr, ofTx_not hf]
      refine tl_opo (o_geq' rfl rfl (t := false) rfl) rfl rfl rfl rfl ?_
      refine tl_opo (o_eqB' rfl rfl (t := true) rfl) rfl rfl rfl rfl ?_
      refine tl_opo (o_move rfl) rfl rfl rfl rfl ?_; refine tl_opo (o_move rfl) rfl rfl rfl rfl ?_; refine tl_opo (o_move rfl) rfl rfl rfl rfl ?_; refine tl_opo (o_move rfl) rfl rfl rfl rfl ?_
      refine tl_opo (o_eqlS' rfl rfl (t := true) rfl) rfl rfl rfl rfl ?_
      refine tl_opo (o_pick rfl rfl rfl) rfl rfl rfl rfl ?_; refine tl_opo (o_pick rfl rfl rfl) rfl rfl rfl rfl ?_; refine tl_opo (o_move rfl) rfl rfl rfl rfl ?_; refine tl_nil ?_
      exact tc_ret (retd rfl ⟨_, frz_ok rfl⟩)

end Go.Eng.Recv

