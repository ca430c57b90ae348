/- A part of the engine: a machine over abstract values, and the proof that the program does what it does; no condition. -/
import Derived.Test.YtiomljbaolopiaaLA
set_option linter.unusedSectionVars false
set_option linter.unusedVariables false
set_option linter.unusedSimpArgs false
set_option linter.unnecessarySimpa false
/- The document's items: num, to, Later. -/
namespace Go.Eng.Line
open Go Go.Eng
attribute [local irreducible] OpR TL TD TC CallR

structure Rf where
  fr : Int
  to : Int
  tx : List UInt8
  at_ : Int

def Rf.row (x : Rf) : List AVal := [.int .u64 x.fr, .int .u64 x.to, .str x.tx, .int .u64 x.at_]

def numV (h p : Int) : Int := IntKind.u64.wrap (BitVec.ofInt IntKind.u64.bits (IntKind.u64.wrap (IntKind.u64.wrap h * 2 ^ min (Int.toNat 16) IntKind.u64.bits)) ||| BitVec.ofInt IntKind.u64.bits (IntKind.u64.wrap p)).toNat

theorem num_ok (h p : Int) : CallR AP 45 [.agg [.int .u32 h, .int .u16 p]] (.int .u64 (numV h p)) := by
  refine callR_of (af := c45) rfl rfl ?_
  refine tc_seq (tc_ops ?_)
  refine tl_opn (o_box rfl rfl rfl rfl) rfl rfl rfl rfl ?_; refine tl_opo (o_move rfl) rfl rfl rfl rfl ?_; refine tl_nil ?_
  dsimp only [putM, initM, acells, effS, List.nil_append, List.cons_append, List.length_nil, List.length_cons, List.set_cons_zero, List.set_cons_succ, List.set_nil, List.append_nil, Nat.zero_add, Nat.add_zero, Nat.reduceAdd, List.replicate, nslots]
  refine tc_seq (tc_ops ?_)
  refine tl_opo (o_faddr rfl) rfl rfl rfl rfl ?_; refine tl_opo (o_load rfl rfl rfl (Nat.le_of_ble_eq_true rfl) rfl) rfl rfl rfl rfl ?_
  refine tl_opo (o_conv rfl) rfl rfl rfl rfl ?_
  refine tl_opo (o_bin rfl rfl (v := .int .u64 (IntKind.u64.wrap (IntKind.u64.wrap h * 2 ^ min (Int.toNat 16) IntKind.u64.bits))) (by simp [abin, isShift, ashift])) rfl rfl rfl rfl ?_
  refine tl_opo (o_faddr rfl) rfl rfl rfl rfl ?_; refine tl_opo (o_load rfl rfl rfl (Nat.le_of_ble_eq_true rfl) rfl) rfl rfl rfl rfl ?_
  refine tl_opo (o_conv rfl) rfl rfl rfl rfl ?_
  refine tl_opo (o_bin rfl rfl (v := .int .u64 (numV h p)) (by simp only [abin, isShift, Bool.false_eq_true, if_false, if_true, aintop, abits, Option.map_some, numV])) rfl rfl rfl rfl ?_
  refine tl_opo (o_move rfl) rfl rfl rfl rfl ?_; refine tl_nil ?_
  exact tc_ret (retd rfl ⟨_, frz_ok rfl⟩)

def later (a b : Int) : Int := if IntKind.u64.wrap (a + b) < a then 18446744073709551615 else IntKind.u64.wrap (a + b)

theorem later_ok (a b : Int) : CallR AP 25 [.int .u64 a, .int .u64 b] (.int .u64 (later a b)) := by
  refine callR_of (af := c25) rfl rfl ?_
  refine tc_seq (tc_ops ?_)
  refine tl_opo (o_move rfl) rfl rfl rfl rfl ?_; refine tl_nil ?_
  refine tc_seq (tc_seq (tc_ops ?_))
  refine tl_opo (o_move rfl) rfl rfl rfl rfl ?_; refine tl_opo (o_move rfl) rfl rfl rfl rfl ?_
  refine tl_opo (o_bin rfl rfl (v := .int .u64 (IntKind.u64.wrap (a + b))) (by simp only [abin, isShift, Bool.false_eq_true, if_false, if_true, aintop])) rfl rfl rfl rfl ?_
  refine tl_opo (o_move rfl) rfl rfl rfl rfl ?_
  by_cases h : IntKind.u64.wrap (a + b) < a
  · refine tl_opo (o_lss' rfl rfl (t := true) (by simpa using h)) rfl rfl rfl rfl ?_
    refine tl_nil ?_
    refine tc_cond rfl (fun _ => ?_) (fun h => nomatch h)
    refine tc_seq (tc_ops ?_)
    refine tl_opo (o_move rfl) rfl rfl rfl rfl ?_; refine tl_nil ?_
    refine tc_ret (retd rfl ?_)
    rw [later, if_pos h]
    exact ⟨_, frz_ok rfl⟩
  · refine tl_opo (o_lss' rfl rfl (t := false) (by simpa using h)) rfl rfl rfl rfl ?_
    refine tl_nil ?_
    refine tc_cond rfl (fun h => nomatch h) (fun _ => tc_skip ?_)
    refine tc_seq (tc_ops ?_)
    refine tl_opo (o_move rfl) rfl rfl rfl rfl ?_; refine tl_opo (o_move rfl) rfl rfl rfl rfl ?_
    refine tl_opo (o_bin rfl rfl (v := .int .u64 (IntKind.u64.wrap (a + b))) (by simp only [abin, isShift, Bool.false_eq_true, if_false, if_true, aintop])) rfl rfl rfl rfl ?_
    refine tl_opo (o_move rfl) rfl rfl rfl rfl ?_; refine tl_nil ?_
    refine tc_ret (retd rfl ?_)
    rw [later, if_neg h]
    exact ⟨_, frz_ok rfl⟩

def toR (x : It) : Rf := ⟨numV x.fh x.fp, numV x.th x.tp, x.tx, x.at_⟩

theorem to_ok (x : It) : CallR AP 21 [.agg x.row] (.agg (toR x).row) := by
  refine callR_of (af := c21) rfl rfl ?_
  refine tc_seq (tc_ops ?_)
  refine tl_opn (o_box rfl rfl rfl rfl) rfl rfl rfl rfl ?_; refine tl_opn o_alloc rfl rfl rfl rfl ?_; refine tl_nil ?_
  dsimp only [putM, initM, acells, effS, List.nil_append, List.cons_append, List.length_nil, List.length_cons, List.set_cons_zero, List.set_cons_succ, List.set_nil, List.append_nil, Nat.zero_add, Nat.add_zero, Nat.reduceAdd, List.replicate, nslots]
  refine tc_seq (tc_drawR [none, none] rfl ?_)
  refine td_op rfl rfl (o_faddr rfl) ?_; refine td_op rfl rfl (o_load rfl rfl rfl (Nat.le_of_ble_eq_true rfl) rfl) ?_
  refine td_op rfl rfl (o_callc (as := [.agg [.int .u32 x.fh, .int .u16 x.fp]]) rfl rfl rfl rfl (num_ok _ _) rfl) ?_
  refine td_op rfl rfl (o_faddr rfl) ?_; refine td_op rfl rfl (o_load rfl rfl rfl (Nat.le_of_ble_eq_true rfl) rfl) ?_
  refine td_op rfl rfl (o_callc (as := [.agg [.int .u32 x.th, .int .u16 x.tp]]) rfl rfl rfl rfl (num_ok _ _) rfl) ?_
  refine td_op rfl rfl (o_faddr rfl) ?_; refine td_op rfl rfl (o_load rfl rfl rfl (Nat.le_of_ble_eq_true rfl) rfl) ?_; refine td_op rfl rfl (o_faddr rfl) ?_; refine td_op rfl rfl (o_load rfl rfl rfl (Nat.le_of_ble_eq_true rfl) rfl) ?_; refine td_op rfl rfl (o_build rfl rfl) ?_; refine td_op rfl rfl (o_store rfl rfl rfl rfl rfl rfl rfl (Nat.le_of_ble_eq_true rfl) rfl) ?_; refine td_nil ?_
  refine ⟨rfl, ?_⟩
  dsimp only [putM, initM, acells, effS, List.nil_append, List.cons_append, List.length_nil, List.length_cons, List.set_cons_zero, List.set_cons_succ, List.set_nil, List.append_nil, Nat.zero_add, Nat.add_zero, Nat.reduceAdd, List.replicate, nslots]
  refine tc_ret (retd rfl ?_)
  exact ⟨_, frz_ok (by simp [AVal.closed, closedL, one, toR, Rf.row])⟩

end Go.Eng.Line

/- The document's Drop. -/
namespace Go.Eng.Line
open Go Go.Eng
attribute [local irreducible] OpR TL TD TC CallR

def encR (l : List Rf) : List (List AVal) := l.map Rf.row
@[simp] theorem encR_closed (l : List Rf) : closedLL (encR l) = true := closed_map (fun _ => rfl) l
@[simp] theorem encR_noref (l : List Rf) : norefLL (encR l) = true := noref_map (fun _ => rfl) l
@[simp] theorem encR_len (l : List Rf) : (encR l).length = l.length := by simp [encR]
theorem encR_get {l : List Rf} {i : Nat} (h : i < l.length) : (encR l)[i]? = some l[i].row := by simp [encR, h]

/-- without the i-th, of the first k -/
def dropTo (l : List Rf) (i : Int) (k : Nat) : List Rf := ((l.take k).zipIdx.filter fun p => !((p.2 : Int) == i)).map (·.1)
theorem dropTo_succ {l : List Rf} {i : Int} {k : Nat} (h : k < l.length) : dropTo l i (k + 1) = dropTo l i k ++ (if (k : Int) = i then [] else [l[k]]) := by
  unfold dropTo
  rw [List.take_add_one, List.getElem?_eq_getElem h, List.zipIdx_append, List.filter_append, List.map_append]
  congr 1
  simp only [Option.toList_some, List.zipIdx_cons, List.zipIdx_nil, List.length_take, Nat.min_eq_left (Nat.le_of_lt h), Nat.zero_add]
  by_cases hn : (k : Int) = i <;> simp [hn]
theorem dropTo_len (l : List Rf) (i : Int) (k : Nat) : (dropTo l i k).length ≤ k := by
  unfold dropTo
  rw [List.length_map]
  refine Nat.le_trans (List.length_filter_le _ _) ?_
  simp; omega

theorem drop_ok (l : List Rf) (i : Int) (hl : l.length ≤ 1000000) : CallR AP 22 [.imm (encR l), .int .i64 i] (.imm (encR (dropTo l i l.length))) := by
  refine callR_of (af := c22) rfl rfl ?_
  refine tc_seq (tc_ops ?_)
  refine tl_opo (o_move rfl) rfl rfl rfl rfl ?_; refine tl_nil ?_
  refine tc_seq (tc_ops ?_)
  refine tl_opo (o_move rfl) rfl rfl rfl rfl ?_; refine tl_nil ?_
  refine tc_seq (tc_seq (tc_ops ?_))
  refine tl_opo (o_move rfl) rfl rfl rfl rfl ?_; refine tl_opo (o_len_imm rfl) rfl rfl rfl rfl ?_; refine tl_opo (o_move rfl) rfl rfl rfl rfl ?_; refine tl_nil ?_
  dsimp only [putM, initM, acells, effS, List.nil_append, List.cons_append, List.length_nil, List.length_cons, List.set_cons_zero, List.set_cons_succ, List.set_nil, List.append_nil, Nat.zero_add, Nat.add_zero, Nat.reduceAdd, List.replicate, nslots]
  refine tc_block (loop_st (σ := Nat × AVal) (fun s => l.length - s.1) (fun s => [(10, .int .i64 s.1), (9, .int .i64 (encR l).length), (8, .imm (encR l)), (5, s.2), (1, .int .i64 i)])
    (fun s S => s.1 ≤ l.length ∧ Acc 0 4 S s.2 (encR (dropTo l i s.1))) (0, .nils) (by (repeat' (first | exact wk_nil | refine wk_cons rfl ?_))) ⟨Nat.zero_le _, acc_nil⟩ ?_)
  rintro ⟨k, out⟩ S ⟨hk, hacc⟩
  simp only at hk hacc
  refine tc_seq (tc_ops ?_)
  refine tl_opo (o_lss rfl rfl) rfl rfl rfl rfl ?_; refine tl_nil ?_
  refine tc_seq (tc_cond rfl (fun h => tc_skip ?_) (fun h => tc_exit ?_))
  · have hk' : k < l.length := by simpa using h
    have hrl := dropTo_len l i k
    refine tc_seq (tc_block (tc_seq (tc_ops ?_)))
    refine tl_opo (o_move rfl) rfl rfl rfl rfl ?_
    refine tl_opo (o_iaddr rfl rfl (encR_get hk') rfl) rfl rfl rfl rfl ?_
    refine tl_opo (o_loadr rfl (Nat.le_of_ble_eq_true rfl) rfl) rfl rfl rfl rfl ?_
    refine tl_opn o_alloc rfl rfl rfl rfl ?_
    rw [set_snoc]
    refine tl_opo (o_move rfl) rfl rfl rfl rfl ?_
    refine tl_opo (o_store rfl rfl get_snoc rfl rfl rfl rfl (Nat.le_of_ble_eq_true rfl) rfl) rfl rfl rfl rfl ?_
    rw [set_snoc]
    refine tl_nil ?_
    refine tc_seq (tc_ops ?_)
    refine tl_opo (o_move rfl) rfl rfl rfl rfl ?_; refine tl_opo (o_move rfl) rfl rfl rfl rfl ?_
    by_cases he : (k : Int) = i
    · refine tl_opo (o_neq' rfl rfl (t := false) (by simpa using he)) rfl rfl rfl rfl ?_
      refine tl_nil ?_
      refine tc_cond rfl (fun h => nomatch h) (fun _ => tc_skip ?_)
      refine tc_ops ?_
      refine tl_opo (o_add rfl rfl (c := ((k + 1 : Nat) : Int)) (by simp) (by omega) (by omega)) rfl rfl rfl rfl ?_
      refine tl_opo (o_move rfl) rfl rfl rfl rfl ?_; refine tl_nil ?_
      refine ⟨(k + 1, out), by simp only; omega, by (repeat' (first | exact wk_nil | refine wk_cons rfl ?_)), by simp only; omega, ?_⟩
      simp only
      rw [dropTo_succ hk', if_pos he, List.append_nil]
      exact hacc.snoc _
    · refine tl_opo (o_neq' rfl rfl (t := true) (by simpa using he)) rfl rfl rfl rfl ?_
      refine tl_nil ?_
      refine tc_cond rfl (fun _ => ?_) (fun h => nomatch h)
      refine tc_ops ?_
      refine tl_opo (o_move rfl) rfl rfl rfl rfl ?_
      refine tl_opo (o_load rfl get_snoc rfl (Nat.le_of_ble_eq_true rfl) rfl) rfl rfl rfl rfl ?_
      refine tl_opo (o_buildSlice rfl rfl) rfl rfl rfl rfl ?_
      refine tl_acc rfl rfl (hacc.snoc _) (new := encR [l[k]]) rfl (by simp [encR]) rfl (by simp; omega) (by simp) rfl rfl ?_
      intro v' S' hacc' hlen hold
      refine tl_opo (o_move rfl) rfl rfl rfl rfl ?_; refine tl_nil ?_
      refine tc_ops ?_
      refine tl_opo (o_add rfl rfl (c := ((k + 1 : Nat) : Int)) (by simp) (by omega) (by omega)) rfl rfl rfl rfl ?_
      refine tl_opo (o_move rfl) rfl rfl rfl rfl ?_; refine tl_nil ?_
      refine ⟨(k + 1, v'), by simp only; omega, by (repeat' (first | exact wk_nil | refine wk_cons rfl ?_)), by simp only; omega, ?_⟩
      simp only
      rw [dropTo_succ hk', if_neg he]
      simpa [encR] using hacc'
  · have hk' : l.length ≤ k := by simpa using h
    have : k = l.length := by omega
    subst this
    refine tc_seq (tc_ops ?_)
    refine tl_opo (o_move rfl) rfl rfl rfl rfl ?_; refine tl_opo (o_move rfl) rfl rfl rfl rfl ?_; refine tl_nil ?_
    exact tc_ret (retd rfl (hacc.frz (n := 5) (encR_closed _)))

end Go.Eng.Line

/- The document's Send. -/
namespace Go.Eng.Line
open Go Go.Eng
attribute [local irreducible] OpR TL TD TC CallR

def keepTo (l : List Rf) (k : Nat) : List Rf := if l.length < 256 then l.take k else (l.take k).drop 1
def rsend (l : List Rf) (x : Rf) : List Rf := keepTo l l.length ++ [x]
theorem keepTo_succ {l : List Rf} {k : Nat} (h : k < l.length) : keepTo l (k + 1) = keepTo l k ++ (if l.length < 256 ∨ 0 < k then [l[k]] else []) := by
  unfold keepTo
  rw [List.take_add_one, List.getElem?_eq_getElem h]
  by_cases h1 : l.length < 256
  · simp [h1]
  · simp only [h1, if_false, false_or, Option.toList_some]
    cases k with
    | zero => simp
    | succ k =>
      rw [if_pos (by omega), List.drop_append_of_le_length (by simp; omega)]
theorem keepTo_len (l : List Rf) (k : Nat) : (keepTo l k).length ≤ k := by
  unfold keepTo; split <;> simp <;> omega

theorem rsend_ok (l : List Rf) (x : Rf) (hl : l.length ≤ 1000000) : CallR AP 24 [.imm (encR l), .agg x.row] (.imm (encR (rsend l x))) := by
  refine callR_of (af := c24) rfl rfl ?_
  refine tc_seq (tc_ops ?_)
  refine tl_opn (o_box rfl rfl rfl rfl) rfl rfl rfl rfl ?_; refine tl_opo (o_move rfl) rfl rfl rfl rfl ?_; refine tl_nil ?_
  dsimp only [putM, initM, acells, effS, List.nil_append, List.cons_append, List.length_nil, List.length_cons, List.set_cons_zero, List.set_cons_succ, List.set_nil, List.append_nil, Nat.zero_add, Nat.add_zero, Nat.reduceAdd, List.replicate, nslots]
  refine tc_seq (tc_ops ?_)
  refine tl_opo (o_move rfl) rfl rfl rfl rfl ?_; refine tl_nil ?_
  refine tc_cut (σ := AVal) (fun v => [(3, .ptr 0 0 0), (5, v)]) (fun v S => S[0]? = some (some ⟨4, [x.row]⟩) ∧ 1 ≤ S.length ∧ Acc 1 4 S v (encR (keepTo l l.length))) ?_ ?_
  · refine tc_seq (tc_ops ?_)
    refine tl_opo (o_move rfl) rfl rfl rfl rfl ?_; refine tl_opo (o_len_imm rfl) rfl rfl rfl rfl ?_; refine tl_opo (o_move rfl) rfl rfl rfl rfl ?_; refine tl_nil ?_
    refine tc_block (loop_st (σ := Nat × AVal) (fun s => l.length - s.1) (fun s => [(10, .int .i64 s.1), (9, .int .i64 (encR l).length), (8, .imm (encR l)), (5, s.2), (0, .imm (encR l)), (3, .ptr 0 0 0)])
      (fun s S => s.1 ≤ l.length ∧ S[0]? = some (some ⟨4, [x.row]⟩) ∧ Acc 1 4 S s.2 (encR (keepTo l s.1))) (0, .nils) (by (repeat' (first | exact wk_nil | refine wk_cons rfl ?_))) ⟨Nat.zero_le _, rfl, by simp [keepTo, encR, Acc]⟩ ?_)
    rintro ⟨k, out⟩ S ⟨hk, hS, hacc⟩
    simp only at hk hS hacc
    have hS0 : 0 < S.length := (List.getElem?_eq_some_iff.1 hS).1
    refine tc_seq (tc_ops ?_)
    refine tl_opo (o_lss rfl rfl) rfl rfl rfl rfl ?_; refine tl_nil ?_
    refine tc_seq (tc_cond rfl (fun h => tc_skip ?_) (fun h => tc_exit ?_))
    · have hk' : k < l.length := by simpa using h
      have hrl := keepTo_len l k
      refine tc_seq (tc_block (tc_seq (tc_ops ?_)))
      refine tl_opo (o_move rfl) rfl rfl rfl rfl ?_
      refine tl_opo (o_iaddr rfl rfl (encR_get hk') rfl) rfl rfl rfl rfl ?_
      refine tl_opo (o_loadr rfl (Nat.le_of_ble_eq_true rfl) rfl) rfl rfl rfl rfl ?_
      refine tl_opn o_alloc rfl rfl rfl rfl ?_
      rw [set_snoc]
      refine tl_opo (o_move rfl) rfl rfl rfl rfl ?_
      refine tl_opo (o_store rfl rfl get_snoc rfl rfl rfl rfl (Nat.le_of_ble_eq_true rfl) rfl) rfl rfl rfl rfl ?_
      rw [set_snoc]
      refine tl_nil ?_
      refine tc_seq (tc_ops ?_)
      refine tl_opo (o_move rfl) rfl rfl rfl rfl ?_; refine tl_opo (o_len_imm rfl) rfl rfl rfl rfl ?_
      by_cases h1 : l.length < 256
      · refine tl_opo (o_lss' rfl rfl (t := true) (by simp; omega)) rfl rfl rfl rfl ?_
        refine tl_opo (o_move rfl) rfl rfl rfl rfl ?_; refine tl_off0 rfl rfl rfl ?_; refine tl_off0 rfl rfl rfl ?_; refine tl_opo (o_pick rfl rfl rfl) rfl rfl rfl rfl ?_; refine tl_nil ?_
        refine tc_cond rfl (fun _ => ?_) (fun h => nomatch h)
        refine tc_ops ?_
        refine tl_opo (o_move rfl) rfl rfl rfl rfl ?_
        refine tl_opo (o_load rfl get_snoc rfl (Nat.le_of_ble_eq_true rfl) rfl) rfl rfl rfl rfl ?_
        refine tl_opo (o_buildSlice rfl rfl) rfl rfl rfl rfl ?_
        refine tl_acc rfl rfl (hacc.snoc _) (new := encR [l[k]]) rfl (by simp [encR]) rfl (by simp; omega) (by simp) rfl rfl ?_
        intro v' S' hacc' hlen hold
        refine tl_opo (o_move rfl) rfl rfl rfl rfl ?_; refine tl_nil ?_
        refine tc_ops ?_
        refine tl_opo (o_add rfl rfl (c := ((k + 1 : Nat) : Int)) (by simp) (by omega) (by omega)) rfl rfl rfl rfl ?_
        refine tl_opo (o_move rfl) rfl rfl rfl rfl ?_; refine tl_nil ?_
        refine ⟨(k + 1, v'), by simp only; omega, by (repeat' (first | exact wk_nil | refine wk_cons rfl ?_)), by simp only; omega, by rw [hold 0 (by omega)]; exact get_app hS, ?_⟩
        simp only
        rw [keepTo_succ hk', if_pos (by omega)]
        simpa [encR] using hacc'
      · refine tl_opo (o_lss' rfl rfl (t := false) (by simp; omega)) rfl rfl rfl rfl ?_
        refine tl_opo (o_move rfl) rfl rfl rfl rfl ?_; refine tl_opo (o_move rfl) rfl rfl rfl rfl ?_
        by_cases h2 : 0 < k
        · refine tl_opo (o_gtr' rfl rfl (t := true) (by simp; omega)) rfl rfl rfl rfl ?_
          refine tl_opo (o_pick rfl rfl rfl) rfl rfl rfl rfl ?_; refine tl_nil ?_
          refine tc_cond rfl (fun _ => ?_) (fun h => nomatch h)
          refine tc_ops ?_
          refine tl_opo (o_move rfl) rfl rfl rfl rfl ?_
          refine tl_opo (o_load rfl get_snoc rfl (Nat.le_of_ble_eq_true rfl) rfl) rfl rfl rfl rfl ?_
          refine tl_opo (o_buildSlice rfl rfl) rfl rfl rfl rfl ?_
          refine tl_acc rfl rfl (hacc.snoc _) (new := encR [l[k]]) rfl (by simp [encR]) rfl (by simp; omega) (by simp) rfl rfl ?_
          intro v' S' hacc' hlen hold
          refine tl_opo (o_move rfl) rfl rfl rfl rfl ?_; refine tl_nil ?_
          refine tc_ops ?_
          refine tl_opo (o_add rfl rfl (c := ((k + 1 : Nat) : Int)) (by simp) (by omega) (by omega)) rfl rfl rfl rfl ?_
          refine tl_opo (o_move rfl) rfl rfl rfl rfl ?_; refine tl_nil ?_
          refine ⟨(k + 1, v'), by simp only; omega, by (repeat' (first | exact wk_nil | refine wk_cons rfl ?_)), by simp only; omega, by rw [hold 0 (by omega)]; exact get_app hS, ?_⟩
          simp only
          rw [keepTo_succ hk', if_pos (by omega)]
          simpa [encR] using hacc'
        · refine tl_opo (o_gtr' rfl rfl (t := false) (by simp; omega)) rfl rfl rfl rfl ?_
          refine tl_opo (o_pick rfl rfl rfl) rfl rfl rfl rfl ?_; refine tl_nil ?_
          refine tc_cond rfl (fun h => nomatch h) (fun _ => tc_skip ?_)
          refine tc_ops ?_
          refine tl_opo (o_add rfl rfl (c := ((k + 1 : Nat) : Int)) (by simp) (by omega) (by omega)) rfl rfl rfl rfl ?_
          refine tl_opo (o_move rfl) rfl rfl rfl rfl ?_; refine tl_nil ?_
          refine ⟨(k + 1, out), by simp only; omega, by (repeat' (first | exact wk_nil | refine wk_cons rfl ?_)), by simp only; omega, get_app hS, ?_⟩
          simp only
          rw [keepTo_succ hk', if_neg (by omega), List.append_nil]
          exact hacc.snoc _
    · have hk' : l.length ≤ k := by simpa using h
      have : k = l.length := by omega
      subst this
      exact ⟨out, by (repeat' (first | exact wk_nil | refine wk_cons rfl ?_)), hS, by omega, hacc⟩
  · rintro v S ⟨h0, h1, hacc⟩
    have hrl := keepTo_len l l.length
    refine tc_seq (tc_ops ?_)
    refine tl_opo (o_move rfl) rfl rfl rfl rfl ?_
    refine tl_opo (o_load rfl h0 rfl (Nat.le_of_ble_eq_true rfl) rfl) rfl rfl rfl rfl ?_
    refine tl_opo (o_buildSlice rfl rfl) rfl rfl rfl rfl ?_
    refine tl_acc rfl rfl hacc (new := encR [x]) rfl (by simp [encR]) rfl (by simp; omega) h1 rfl rfl ?_
    intro v' S' hacc' hlen hold
    refine tl_opo (o_move rfl) rfl rfl rfl rfl ?_; refine tl_nil ?_
    refine tc_ret (retd rfl ?_)
    have he : encR (rsend l x) = encR (keepTo l l.length) ++ encR [x] := by simp [rsend, encR]
    rw [he]
    exact hacc'.frz (n := 5) (by rw [← he]; exact encR_closed _)

end Go.Eng.Line

/- The document's Set. -/
namespace Go.Eng.Line
open Go Go.Eng
attribute [local irreducible] OpR TL TD TC CallR

theorem rset_ok (l : List Rf) (k : Nat) (x : Rf) (hk : k < l.length) (hl : l.length ≤ 1000000) : CallR AP 26 [.imm (encR l), .int .i64 k, .agg x.row] (.imm (encR (l.set k x))) := by
  refine callR_of (af := c26) rfl rfl ?_
  refine tc_seq (tc_ops ?_)
  refine tl_opn (o_box rfl rfl rfl rfl) rfl rfl rfl rfl ?_; refine tl_opo (o_move rfl) rfl rfl rfl rfl ?_; refine tl_nil ?_
  dsimp only [putM, initM, acells, effS, List.nil_append, List.cons_append, List.length_nil, List.length_cons, List.set_cons_zero, List.set_cons_succ, List.set_nil, List.append_nil, Nat.zero_add, Nat.add_zero, Nat.reduceAdd, List.replicate, nslots]
  refine tc_seq (tc_ops ?_)
  refine tl_opo (o_move rfl) rfl rfl rfl rfl ?_; refine tl_nil ?_
  refine tc_seq (tc_ops ?_)
  refine tl_opo (o_move rfl) rfl rfl rfl rfl ?_; refine tl_opo (o_move rfl) rfl rfl rfl rfl ?_
  have hr : rowsOf 4 (.imm (encR l)) = .ok (encR l) := by
    simp only [rowsOf]
    rw [if_pos]
    cases l <;> rfl
  refine tl_opn (o_append_nils rfl rfl hr (by intro h; have := congrArg List.length h; simp at this; subst this; simp at hk) (by simp; omega)) rfl rfl rfl rfl ?_
  refine tl_opo (o_move rfl) rfl rfl rfl rfl ?_; refine tl_nil ?_
  dsimp only [putM, initM, acells, effS, List.nil_append, List.cons_append, List.length_nil, List.length_cons, List.set_cons_zero, List.set_cons_succ, List.set_nil, List.append_nil, Nat.zero_add, Nat.add_zero, Nat.reduceAdd, List.replicate, nslots]
  refine tc_seq (tc_ops ?_)
  refine tl_opo (o_move rfl) rfl rfl rfl rfl ?_; refine tl_opo (o_move rfl) rfl rfl rfl rfl ?_; refine tl_opo (o_load rfl rfl rfl (Nat.le_of_ble_eq_true rfl) rfl) rfl rfl rfl rfl ?_
  refine tl_opo (o_iaddr_view rfl rfl (by simpa using hk) rfl rfl) rfl rfl rfl rfl ?_
  refine tl_opo (o_store rfl rfl rfl (by simpa using encR_get hk) rfl rfl rfl (Nat.le_of_ble_eq_true rfl) rfl) rfl rfl rfl rfl ?_
  refine tl_nil ?_
  dsimp only [putM, initM, acells, effS, List.nil_append, List.cons_append, List.length_nil, List.length_cons, List.set_cons_zero, List.set_cons_succ, List.set_nil, List.append_nil, Nat.zero_add, Nat.add_zero, Nat.reduceAdd, List.replicate, nslots]
  refine tc_seq (tc_ops ?_)
  refine tl_opo (o_move rfl) rfl rfl rfl rfl ?_; refine tl_opo (o_move rfl) rfl rfl rfl rfl ?_; refine tl_nil ?_
  refine tc_ret (retd rfl ?_)
  refine ⟨_, frz_view rfl (by simp) ?_ (encR_closed _)⟩
  rw [List.drop_zero, List.take_of_length_le (by simp)]
  simp [encR, List.map_set, Rf.row]

end Go.Eng.Line

/- Has a line just these? -/
namespace Go.Eng.Line
open Go Go.Eng
attribute [local irreducible] OpR TL TD TC CallR

theorem rrow_eq (x : Rf) : aeqL [some (.int .u64), some (.int .u64), some .str, some (.int .u64)] x.row x.row = some true := by
  cases x; simp [Rf.row, aeqL, aleaf]

theorem is_ok (l : List It) (hl : l.length ≤ 1000000) : CallR AP 27 [.agg [.imm (enc l)], .imm (encR (l.map toR))] (.bool true) := by
  refine callR_of (af := c27) rfl rfl ?_
  refine tc_seq (tc_ops ?_)
  refine tl_opn (o_box rfl rfl rfl rfl) rfl rfl rfl rfl ?_; refine tl_opo (o_move rfl) rfl rfl rfl rfl ?_; refine tl_nil ?_
  dsimp only [putM, initM, acells, effS, List.nil_append, List.cons_append, List.length_nil, List.length_cons, List.set_cons_zero, List.set_cons_succ, List.set_nil, List.append_nil, Nat.zero_add, Nat.add_zero, Nat.reduceAdd, List.replicate, nslots]
  refine tc_seq (tc_ops ?_)
  refine tl_opo (o_load rfl rfl rfl (Nat.le_of_ble_eq_true rfl) rfl) rfl rfl rfl rfl ?_
  refine tl_call' (as := [.agg [.imm (enc l)]]) (as' := [.agg [.imm (enc l)]]) rfl (frzL_cons (fun n => ⟨_, frz_ok (by simp [AVal.closed, closedL])⟩) frzL_nil) (all_ok l hl) (by simp [norefL, AVal.noref]) rfl rfl rfl rfl ?_
  refine tl_opo (o_move rfl) rfl rfl rfl rfl ?_; refine tl_nil ?_
  dsimp only [putM, initM, acells, effS, List.nil_append, List.cons_append, List.length_nil, List.length_cons, List.set_cons_zero, List.set_cons_succ, List.set_nil, List.append_nil, Nat.zero_add, Nat.add_zero, Nat.reduceAdd, List.replicate, nslots]
  refine tc_seq (tc_seq (tc_ops ?_))
  refine tl_opo (o_move rfl) rfl rfl rfl rfl ?_; refine tl_opo (o_len_imm rfl) rfl rfl rfl rfl ?_; refine tl_opo (o_move rfl) rfl rfl rfl rfl ?_; refine tl_opo (o_len_imm rfl) rfl rfl rfl rfl ?_
  refine tl_opo (o_neq' rfl rfl (t := false) (by simp)) rfl rfl rfl rfl ?_
  refine tl_opo (o_move rfl) rfl rfl rfl rfl ?_; refine tl_opo (o_load rfl rfl rfl (Nat.le_of_ble_eq_true rfl) rfl) rfl rfl rfl rfl ?_
  refine tl_call' (as := [.agg [.imm (enc l)]]) (as' := [.agg [.imm (enc l)]]) rfl (frzL_cons (fun n => ⟨_, frz_ok (by simp [AVal.closed, closedL])⟩) frzL_nil) (len_ok l) (by simp [norefL, AVal.noref]) rfl rfl rfl rfl ?_
  refine tl_opo (o_move rfl) rfl rfl rfl rfl ?_; refine tl_opo (o_len_imm rfl) rfl rfl rfl rfl ?_
  refine tl_opo (o_neq' rfl rfl (t := false) (by simp)) rfl rfl rfl rfl ?_
  refine tl_opo (o_pick rfl rfl rfl) rfl rfl rfl rfl ?_; refine tl_nil ?_
  refine tc_cond rfl (fun h => nomatch h) (fun _ => tc_skip ?_)
  refine tc_seq (tc_seq (tc_ops ?_))
  refine tl_opo (o_move rfl) rfl rfl rfl rfl ?_; refine tl_opo (o_len_imm rfl) rfl rfl rfl rfl ?_; refine tl_opo (o_move rfl) rfl rfl rfl rfl ?_; refine tl_nil ?_
  refine tc_block (loop_st (fun i => l.length - i) (fun i : Nat => [(1, .imm (encR (l.map toR))), (5, .imm (enc l)), (22, .int .i64 (enc l).length), (23, .int .i64 i)])
    (fun i S => i ≤ l.length) 0 (by (repeat' (first | exact wk_nil | refine wk_cons rfl ?_))) (Nat.zero_le _) ?_)
  intro i S hi
  refine tc_seq (tc_ops ?_)
  refine tl_opo (o_lss rfl rfl) rfl rfl rfl rfl ?_; refine tl_nil ?_
  refine tc_seq (tc_cond rfl (fun h => tc_skip ?_) (fun h => tc_exit ?_))
  · have hi' : i < l.length := by simpa using h
    refine tc_seq (tc_block (tc_seq (tc_ops ?_)))
    refine tl_opo (o_move rfl) rfl rfl rfl rfl ?_; refine tl_opo (o_move rfl) rfl rfl rfl rfl ?_; refine tl_nil ?_
    refine tc_seq (tc_drawR [none] rfl ?_)
    refine td_op rfl rfl (o_move rfl) ?_; refine td_op rfl rfl (o_move rfl) ?_
    refine td_op rfl rfl (o_iaddr rfl rfl (enc_get hi') rfl) ?_
    refine td_op rfl rfl (o_loadr rfl (Nat.le_of_ble_eq_true rfl) rfl) ?_
    refine td_op rfl rfl (o_callc (as := [.agg l[i].row]) rfl rfl rfl rfl (to_ok _) rfl) ?_
    refine td_op rfl rfl (o_move rfl) ?_; refine td_op rfl rfl (o_move rfl) ?_
    refine td_op rfl rfl (o_iaddr (r := (toR l[i]).row) rfl rfl (by simp [encR, hi']) rfl) ?_
    refine td_op rfl rfl (o_loadr rfl (Nat.le_of_ble_eq_true rfl) rfl) ?_
    refine td_op rfl rfl (o_eqAgg (xs := (toR l[i]).row) (ys := (toR l[i]).row) rfl rfl (rrow_eq _)) ?_
    refine td_nil ?_
    refine ⟨rfl, ?_⟩
    refine tc_cond rfl (fun h => nomatch h) (fun _ => tc_skip ?_)
    refine tc_ops ?_
    refine tl_opo (o_add rfl rfl (c := ((i + 1 : Nat) : Int)) (by simp) (by omega) (by omega)) rfl rfl rfl rfl ?_
    refine tl_opo (o_move rfl) rfl rfl rfl rfl ?_; refine tl_nil ?_
    exact ⟨i + 1, by omega, by (repeat' (first | exact wk_nil | refine wk_cons rfl ?_)), by omega⟩
  · refine tc_seq (tc_ops ?_)
    refine tl_opo (o_move rfl) rfl rfl rfl rfl ?_; refine tl_nil ?_
    exact tc_ret (retd rfl ⟨_, frz_ok rfl⟩)

end Go.Eng.Line

/- The least tick. -/
namespace Go.Eng.Line
open Go Go.Eng
attribute [local irreducible] OpR TL TD TC CallR

def nx (s : Int × Bool) (x : It) : Int × Bool := if s.2 = false ∨ x.at_ < s.1 then (x.at_, true) else s
def nextTo (l : List It) (i : Nat) : Int × Bool := (l.take i).foldl nx (0, false)
theorem nextTo_succ {l : List It} {i : Nat} (h : i < l.length) : nextTo l (i + 1) = nx (nextTo l i) l[i] := by
  unfold nextTo
  rw [List.take_add_one, List.getElem?_eq_getElem h, List.foldl_append]; rfl

theorem next_ok (l : List It) (hl : l.length ≤ 1000000) : CallR AP 28 [.agg [.imm (enc l)]] (.tuple [.int .u64 (nextTo l l.length).1, .bool (nextTo l l.length).2]) := by
  refine callR_of (af := c28) rfl rfl ?_
  refine tc_seq (tc_ops ?_)
  refine tl_opn (o_box rfl rfl rfl rfl) rfl rfl rfl rfl ?_; refine tl_opo (o_move rfl) rfl rfl rfl rfl ?_; refine tl_opo (o_move rfl) rfl rfl rfl rfl ?_; refine tl_nil ?_
  dsimp only [putM, initM, acells, effS, List.nil_append, List.cons_append, List.length_nil, List.length_cons, List.set_cons_zero, List.set_cons_succ, List.set_nil, List.append_nil, Nat.zero_add, Nat.add_zero, Nat.reduceAdd, List.replicate, nslots]
  refine tc_seq (tc_ops ?_)
  refine tl_opo (o_move rfl) rfl rfl rfl rfl ?_; refine tl_opo (o_move rfl) rfl rfl rfl rfl ?_; refine tl_nil ?_
  refine tc_seq (tc_seq (tc_ops ?_))
  refine tl_opo (o_faddr rfl) rfl rfl rfl rfl ?_; refine tl_opo (o_load rfl rfl rfl (Nat.le_of_ble_eq_true rfl) rfl) rfl rfl rfl rfl ?_; refine tl_opo (o_len_imm rfl) rfl rfl rfl rfl ?_; refine tl_opo (o_move rfl) rfl rfl rfl rfl ?_; refine tl_nil ?_
  refine tc_block (loop_st (fun i => l.length - i) (fun i : Nat => [(4, .int .u64 (nextTo l i).1), (5, .bool (nextTo l i).2), (9, .imm (enc l)), (10, .int .i64 (enc l).length), (11, .int .i64 i)])
    (fun i S => i ≤ l.length) 0 (by (repeat' (first | exact wk_nil | refine wk_cons rfl ?_))) (Nat.zero_le _) ?_)
  intro i S hi
  refine tc_seq (tc_ops ?_)
  refine tl_opo (o_lss rfl rfl) rfl rfl rfl rfl ?_; refine tl_nil ?_
  refine tc_seq (tc_cond rfl (fun h => tc_skip ?_) (fun h => tc_exit ?_))
  · have hi' : i < l.length := by simpa using h
    refine tc_seq (tc_block (tc_seq (tc_ops ?_)))
    refine tl_opo (o_iaddr rfl rfl (enc_get hi') rfl) rfl rfl rfl rfl ?_
    refine tl_opo (o_loadr rfl (Nat.le_of_ble_eq_true rfl) rfl) rfl rfl rfl rfl ?_
    refine tl_opn o_alloc rfl rfl rfl rfl ?_
    rw [set_snoc]
    refine tl_opo (o_store rfl rfl get_snoc rfl rfl rfl rfl (Nat.le_of_ble_eq_true rfl) rfl) rfl rfl rfl rfl ?_
    rw [set_snoc]
    refine tl_nil ?_
    refine tc_seq (tc_ops ?_)
    refine tl_opo (o_move rfl) rfl rfl rfl rfl ?_
    cases hs : (nextTo l i).2 with
    | false =>
      refine tl_opo (o_un rfl rfl) rfl rfl rfl rfl ?_; refine tl_opo (o_move rfl) rfl rfl rfl rfl ?_; refine tl_off0 rfl rfl rfl ?_; refine tl_off0 rfl rfl rfl ?_; refine tl_off0 rfl rfl rfl ?_; refine tl_off0 rfl rfl rfl ?_; refine tl_opo (o_pick rfl rfl rfl) rfl rfl rfl rfl ?_; refine tl_nil ?_
      refine tc_cond rfl (fun _ => ?_) (fun h => nomatch h)
      refine tc_ops ?_
      refine tl_opo (o_faddr rfl) rfl rfl rfl rfl ?_
      refine tl_opo (o_load rfl get_snoc rfl (Nat.le_of_ble_eq_true rfl) rfl) rfl rfl rfl rfl ?_
      refine tl_opo (o_move rfl) rfl rfl rfl rfl ?_; refine tl_opo (o_move rfl) rfl rfl rfl rfl ?_; refine tl_nil ?_
      refine tc_ops ?_
      refine tl_opo (o_add rfl rfl (c := ((i + 1 : Nat) : Int)) (by simp) (by omega) (by omega)) rfl rfl rfl rfl ?_
      refine tl_opo (o_move rfl) rfl rfl rfl rfl ?_; refine tl_nil ?_
      have e : nextTo l (i + 1) = (l[i].at_, true) := by rw [nextTo_succ hi', nx, if_pos (.inl hs)]
      refine ⟨i + 1, by omega, ?_, by omega⟩
      simp only [e]
      (repeat' (first | exact wk_nil | refine wk_cons rfl ?_))
    | true =>
      refine tl_opo (o_un rfl rfl) rfl rfl rfl rfl ?_; refine tl_opo (o_move rfl) rfl rfl rfl rfl ?_; refine tl_opo (o_faddr rfl) rfl rfl rfl rfl ?_
      refine tl_opo (o_load rfl get_snoc rfl (Nat.le_of_ble_eq_true rfl) rfl) rfl rfl rfl rfl ?_
      refine tl_opo (o_move rfl) rfl rfl rfl rfl ?_
      by_cases hlt : l[i].at_ < (nextTo l i).1
      · refine tl_opo (o_lss' rfl rfl (t := true) (by simpa using hlt)) rfl rfl rfl rfl ?_
        refine tl_opo (o_pick rfl rfl rfl) rfl rfl rfl rfl ?_; refine tl_nil ?_
        refine tc_cond rfl (fun _ => ?_) (fun h => nomatch h)
        refine tc_ops ?_
        refine tl_opo (o_faddr rfl) rfl rfl rfl rfl ?_
        refine tl_opo (o_load rfl get_snoc rfl (Nat.le_of_ble_eq_true rfl) rfl) rfl rfl rfl rfl ?_
        refine tl_opo (o_move rfl) rfl rfl rfl rfl ?_; refine tl_opo (o_move rfl) rfl rfl rfl rfl ?_; refine tl_nil ?_
        refine tc_ops ?_
        refine tl_opo (o_add rfl rfl (c := ((i + 1 : Nat) : Int)) (by simp) (by omega) (by omega)) rfl rfl rfl rfl ?_
        refine tl_opo (o_move rfl) rfl rfl rfl rfl ?_; refine tl_nil ?_
        have e : nextTo l (i + 1) = (l[i].at_, true) := by rw [nextTo_succ hi', nx, if_pos (.inr hlt)]
        refine ⟨i + 1, by omega, ?_, by omega⟩
        simp only [e]
        (repeat' (first | exact wk_nil | refine wk_cons rfl ?_))
      · refine tl_opo (o_lss' rfl rfl (t := false) (by simpa using hlt)) rfl rfl rfl rfl ?_
        refine tl_opo (o_pick rfl rfl rfl) rfl rfl rfl rfl ?_; refine tl_nil ?_
        refine tc_cond rfl (fun h => nomatch h) (fun _ => tc_skip ?_)
        refine tc_ops ?_
        refine tl_opo (o_add rfl rfl (c := ((i + 1 : Nat) : Int)) (by simp) (by omega) (by omega)) rfl rfl rfl rfl ?_
        refine tl_opo (o_move rfl) rfl rfl rfl rfl ?_; refine tl_nil ?_
        have e : nextTo l (i + 1) = nextTo l i := by rw [nextTo_succ hi', nx, if_neg (by rw [hs]; simp; omega)]
        refine ⟨i + 1, by omega, ?_, by omega⟩
        simp only [e, hs]
        (repeat' (first | exact wk_nil | refine wk_cons rfl ?_))
  · have hi' : l.length ≤ i := by simpa using h
    have : i = l.length := by omega
    subst this
    refine tc_seq (tc_ops ?_)
    refine tl_opo (o_move rfl) rfl rfl rfl rfl ?_; refine tl_opo (o_move rfl) rfl rfl rfl rfl ?_; refine tl_opo (o_move rfl) rfl rfl rfl rfl ?_; refine tl_opo (o_move rfl) rfl rfl rfl rfl ?_; refine tl_nil ?_
    exact tc_ret (retd rfl ⟨_, frz_ok rfl⟩)

end Go.Eng.Line

/- For LineTurns: calls in a region that draws, whose arguments may be nil slices; the line and the document side by side. -/
namespace Go.Eng.Line
open Go Go.Eng

theorem _root_.Go.Eng.Var.frz0 {v : AVal} {rows : List (List AVal)} (h : Var v rows) (hc : closedLL rows = true) {S : Store} (n : Nat) : (Eng.frz (n + 1) v).run S = some (.imm rows, []) := by
  rcases h with ⟨rfl, rfl⟩ | rfl
  · exact frz_nils
  · exact frz_ok hc

theorem run_bind0 {α β : Type} {m : RM α} {f : α → RM β} {S : Store} {a : α} {y : β} (h : m.run S = some (a, [])) (hy : (f a).run S = some (y, [])) : (m.bind f).run S = some (y, []) := by
  have := run_bindO m f S a [] [] y h hy
  simpa using this

/-- the arguments, read out with no look at the store -/
theorem frz0_nil {n : Nat} {S : Store} : (RM.mapL (frz n) []).run S = some ([], []) := rfl
theorem frz0_cons {n : Nat} {S : Store} {v v' : AVal} {vs vs' : List AVal} (h : (frz n v).run S = some (v', [])) (hr : (RM.mapL (frz n) vs).run S = some (vs', [])) : (RM.mapL (frz n) (v :: vs)).run S = some (v' :: vs', []) := by
  simp only [RM.mapL]
  exact run_bind0 h (run_bind0 hr rfl)
theorem frz0_agg1 {n : Nat} {S : Store} {v v' : AVal} (h : (frz n v).run S = some (v', [])) : (frz (n + 1) (.agg [v])).run S = some (.agg [v'], []) := by
  simp only [frz]
  split
  · rename_i hc
    simp only [AVal.closed, closedL, Bool.and_true] at hc
    rw [frz_closed n v hc] at h
    simp only [RM.run, Option.some.injEq, Prod.mk.injEq] at h
    obtain ⟨rfl, -⟩ := h
    rfl
  · exact run_bind0 (frz0_cons h frz0_nil) rfl

theorem o_callz {AP : AProg} {m : FM} {slot : Nat} {S : Store} {args : List AOpd} {f : Nat} {as as' : List AVal} {r : AVal} (ha : los m args = some as) (hz : (RM.mapL (frz frzDepth) as).run S = some (as', [])) (hp : AP.prim f = none) (hke : AP.keep f = false) (hr : CallR AP f as' r) (hfl : (norefL as || r.flat) = true) :
    OpR AP m slot S (.call (.c (.fn (.func f) [] [])) args) r S ([], []) := fun fr hfr =>
  ⟨⟨r, none, []⟩, by
    have hr' : Ev (fun n => callI AP (exec AP n) f as') r := hr
    refine hr'.map fun n hn => ?_
    simp only [semX, opd, hfr.opds ha, semCall, hp, hke, Bool.false_eq_true, if_false, List.nil_append, List.append_nil]
    refine run_bind0 hz ?_
    simp only [hn, hfl, if_true, RM.run], rfl, rfl, rfl⟩

theorem _root_.Go.Eng.Acc.fresh {k sz : Nat} {S : Store} {v : AVal} {rows : List (List AVal)} (h : Acc k sz S v rows) {j : Nat} (hj : S.length ≤ j) : ∀ off len full, v ≠ .view j off len full := by
  intro off len full he
  rcases h with ⟨h1, _⟩ | ⟨_, b, _, h3, h4⟩
  · rw [h1] at he; cases he
  · rw [h3] at he
    cases he
    have := (List.getElem?_eq_some_iff.1 h4).1
    omega

/-- a slice grows; all other blocks stay -/
theorem tl_acc2 {AP : AProg} {N : Nat} {d : Option Nat} {k sz bytes : Nat} {x y : AOpd} {v vy : AVal} {rows new : List (List AVal)} {g : Option (Nat × Bool)} {un : List Nat} {l : List AInstr} {m : FM} {S : Store} {K : FM → Store → Prop}
    (hx : lo m x = some v) (hy : lo m y = some vy) (hacc : Acc k sz S v rows) (hr : rowsOf sz vy = .ok new) (hne : new ≠ []) (hst : (new.all fun r => r.all storable) = true) (hb : (rows.length + new.length) * bytes ≤ 17592186044416) (hkS : k ≤ S.length)
    (hd : (d.all fun d => d < N) = true) (hg : gd m g = some true)
    (hk : ∀ v' S', Acc k sz S' v' (rows ++ new) → S'.length = S.length + 1 → (∀ j, j < S.length → (∀ off len full, v ≠ .view j off len full) → S'[j]? = S[j]?) → TL AP N l (putM m d v') S' K) : TL AP N (⟨d, .append sz bytes x y, g, un⟩ :: l) m S K := by
  rcases hacc with ⟨rfl, rfl⟩ | ⟨h1, b, h2, rfl, h4⟩
  · refine tl_opn (o_append_nils hx hy hr hne (by simp at hb; omega)) rfl hd hg rfl ?_
    refine hk _ _ ?_ (by simp) ?_
    · refine .inr ⟨by simpa using hne, S.length, hkS, by simp, ?_⟩
      simp
    · intro j hj _
      rw [set_snoc, List.getElem?_append_left (by omega)]
  · have hbl : b < S.length := (List.getElem?_eq_some_iff.1 h4).1
    refine tl_opn (o_append_view hx hy hr hne (rows0 := rows) (by rw [List.getElem?_append_left hbl]; exact h4) rfl hb hst) rfl hd hg rfl ?_
    refine hk _ _ ?_ (by simp) ?_
    · refine .inr ⟨by simp [h1], S.length, hkS, by simp, ?_⟩
      rw [set_get, if_pos ⟨rfl, by simp⟩]
    · intro j hj hv
      have hjb : j ≠ b := fun h => hv 0 rows.length false (by rw [h])
      rw [set_get, if_neg (by omega), set_get, if_neg (by omega), List.getElem?_append_left (by omega)]

end Go.Eng.Line

/- For LineTurns: the line and the document side by side. -/
namespace Go.Eng.Line
open Go Go.Eng

def Rf.at' (x : Rf) (t : Int) : Rf := { x with at_ := t }

theorem toR_at (x : It) (t : Int) : toR (x.at' t) = (toR x).at' t := rfl

theorem dropTo_not {l : List Rf} {i : Int} (h : ¬ (0 ≤ i ∧ i < l.length)) : ∀ k, k ≤ l.length → dropTo l i k = l.take k
  | 0, _ => rfl
  | k + 1, hk => by
    rw [dropTo_succ (by omega), dropTo_not h k (by omega), if_neg (by omega), List.take_add_one, List.getElem?_eq_getElem (by omega)]; rfl

theorem dropTo_ge {l : List Rf} {j : Nat} (hj : j < l.length) : ∀ k, k ≤ l.length → dropTo l j k = if k ≤ j then l.take k else (l.take k).eraseIdx j
  | 0, _ => by simp [dropTo]
  | k + 1, hk => by
    rw [dropTo_succ (by omega), dropTo_ge hj k (by omega), List.take_add_one, List.getElem?_eq_getElem (by omega)]
    simp only [Option.toList_some]
    by_cases h1 : k < j
    · rw [if_pos (by omega), if_neg (by omega), if_pos (by omega)]
    · by_cases h2 : k = j
      · subst h2
        rw [if_pos (Nat.le_refl _), if_pos rfl, if_neg (by omega), List.append_nil, List.eraseIdx_append_of_length_le (by simp; omega)]
        simp [Nat.min_eq_left (Nat.le_of_lt hj)]
      · rw [if_neg (by omega), if_neg (by omega), if_neg (by omega), List.eraseIdx_append_of_lt_length (by simp; omega)]

theorem drop_lose (l : List It) (i : Int) : dropTo (l.map toR) i (l.map toR).length = (lose l i).map toR := by
  unfold lose
  by_cases h : has l i
  · rw [if_pos h]
    obtain ⟨j, rfl⟩ : ∃ j : Nat, i = j := ⟨i.toNat, by have := h.1; omega⟩
    have hj : j < l.length := by have := h.2; omega
    rw [dropTo_ge (by simpa using hj) _ (Nat.le_refl _), if_neg (by simp; omega), List.take_of_length_le (Nat.le_refl _), Int.toNat_natCast]
    rw [List.eraseIdx_eq_take_drop_succ, List.eraseIdx_eq_take_drop_succ, List.map_append, List.map_take, List.map_drop]
  · rw [if_neg h, dropTo_not (by unfold has at h; simpa using h) _ (Nat.le_refl _), List.take_of_length_le (Nat.le_refl _)]

theorem rsend_send {l : List It} {x : It} (h : l.length ≤ 256) : rsend (l.map toR) (toR x) = (send l x).map toR := by
  unfold rsend keepTo send
  by_cases h1 : l.length < 256
  · rw [if_pos (by simpa using h1), List.take_of_length_le (Nat.le_refl _), show l.length + 1 - 256 = 0 by omega]
    simp
  · rw [if_neg (by simpa using h1), List.take_of_length_le (Nat.le_refl _), show l.length + 1 - 256 = 1 by omega]
    cases l with
    | nil => simp at h1
    | cons y l => simp

theorem later_addU {a b : Int} (ha : 0 ≤ a) (ha' : a < 18446744073709551616) (hb : 0 ≤ b) (hb' : b < 18446744073709551616) : later a b = addU a b := by
  unfold later addU
  rw [wrapu64 (n := 18446744073709551615 - a) (by omega) (by omega)]
  have hw : IntKind.u64.wrap (a + b) = (a + b) % 18446744073709551616 := by simp [IntKind.wrap, IntKind.bits, IntKind.signed]
  rw [hw]
  by_cases h : b > 18446744073709551615 - a
  · rw [if_pos h, if_pos (by omega)]
  · rw [if_neg h, if_neg (by omega)]

end Go.Eng.Line

/- For LineTurns: what each turn does to the line, and to the document's. -/
namespace Go.Eng.Line
open Go Go.Eng

def Rng (l : List It) : Prop := ∀ x ∈ l, 0 ≤ x.at_ ∧ x.at_ < 18446744073709551616

theorem rng_send {l : List It} {x : It} (h : Rng l) (hx : 0 ≤ x.at_ ∧ x.at_ < 18446744073709551616) : Rng (send l x) := by
  intro y hy
  rcases List.mem_append.1 (List.mem_of_mem_drop hy) with h1 | h1
  · exact h y h1
  · rw [List.mem_singleton.1 h1]; exact hx
theorem rng_lose {l : List It} {i : Int} (h : Rng l) : Rng (lose l i) := by
  unfold lose; split
  · exact fun x hx => h x (List.mem_of_mem_eraseIdx hx)
  · exact h
theorem take_in {l : List It} {j : Nat} (hj : j < l.length) (now : Int) : take l j now = if l[j].at_ > now then (l, .zero, 21) else (lose l j, l[j], 0) := by
  unfold take
  rw [Int.toNat_natCast, List.getElem?_eq_getElem hj]
  simp only
  rw [if_pos ⟨by omega, by omega⟩]
theorem take_out {l : List It} {i : Int} (h : ¬ has l i) (now : Int) : take l i now = (l, .zero, 10) := by
  unfold take
  cases l[i.toNat]? with
  | none => rfl
  | some x => simp only; rw [if_neg h]
theorem dbl_in {l : List It} {j : Nat} (hj : j < l.length) (t : Int) : dbl l j t = send l (l[j].at' t) := by
  unfold dbl
  rw [Int.toNat_natCast, List.getElem?_eq_getElem hj]
  simp only
  rw [if_pos ⟨by omega, by omega⟩]
theorem dbl_out {l : List It} {i : Int} (h : ¬ has l i) (t : Int) : dbl l i t = l := by
  unfold dbl
  cases l[i.toNat]? with
  | none => rfl
  | some x => simp only; rw [if_neg h]
theorem delay_out {l : List It} {i : Int} (h : ¬ has l i) (t : Int) : delay l i t = l := by unfold delay; rw [if_neg h]
theorem delay_in {l : List It} {j : Nat} (hj : j < l.length) (t : Int) : delay l j t = l.set j (l[j].at' (addU l[j].at_ t)) := by
  unfold delay
  rw [if_pos ⟨by omega, by omega⟩, Int.toNat_natCast]
  refine List.ext_getElem? fun k => ?_
  rw [List.getElem?_modify, List.getElem?_set]
  by_cases h : j = k
  · subst h; simp [hj]
  · simp [h]
theorem addU_rng {a b : Int} : 0 ≤ addU a b ∧ addU a b < 18446744073709551616 := by
  unfold addU
  have hw : ∀ n, IntKind.u64.wrap n = n % 18446744073709551616 := fun n => by simp [IntKind.wrap, IntKind.bits, IntKind.signed]
  split
  · omega
  · rw [hw]; omega
theorem rng_delay {l : List It} {j : Nat} (hj : j < l.length) {t : Int} (h : Rng l) : Rng (delay l j t) := by
  rw [delay_in hj]
  intro x hx
  rcases List.mem_or_eq_of_mem_set hx with h1 | rfl
  · exact h x h1
  · exact addU_rng

/-- the least tick of those ahead of the i-th -/
def leastTo (l : List It) (i : Nat) : Int := (nextTo l i).1
theorem next_true {l : List It} : ∀ {i : Nat}, i < l.length → (nextTo l (i + 1)).2 = true := by
  intro i hi
  rw [nextTo_succ hi]
  unfold nx
  split
  · rfl
  · rename_i h
    cases hb : (nextTo l i).2 with
    | true => rfl
    | false => exact absurd (.inl hb) h
theorem next_has {l : List It} : (nextTo l l.length).2 = decide (0 < l.length) := by
  cases h : l.length with
  | zero => simp [nextTo]
  | succ n => rw [next_true (by omega)]; simp
theorem leastTo_succ {l : List It} {i : Nat} (h : i < l.length) : leastTo l (i + 1) = if i = 0 ∨ l[i].at_ < leastTo l i then l[i].at_ else leastTo l i := by
  unfold leastTo
  rw [nextTo_succ h]
  unfold nx
  cases i with
  | zero => simp [nextTo]
  | succ k => rw [next_true (i := k) (by omega)]; split <;> rename_i h1 <;> simp at h1 <;> simp <;> omega

end Go.Eng.Line

/- LineTurns: what the machine answers. -/
namespace Go.Eng.Line
open Go Go.Eng
attribute [local irreducible] OpR TL TD TC CallR

structure TSt where
  i : Nat
  L : AVal
  q : AVal
  items : List It

def TOk (L q : AVal) (items : List It) (S : Store) : Prop :=
  Var L (enc items) ∧ Var q (encR (items.map toR)) ∧ S[1]? = some (some ⟨1, [[L]]⟩) ∧ items.length ≤ 256 ∧ Rng items

theorem var_imm {v : AVal} {rows : List (List AVal)} (h : Var v rows) (hn : rows ≠ []) : v = .imm rows := by
  rcases h with ⟨_, h⟩ | h
  · exact absurd h hn
  · exact h
theorem var_noref {v : AVal} {rows : List (List AVal)} (h : Var v rows) (hn : norefLL rows = true) : v.noref = true := by
  rcases h with ⟨rfl, _⟩ | rfl
  · rfl
  · simpa [AVal.noref] using hn
theorem var_stor {v : AVal} {rows : List (List AVal)} (h : Var v rows) : storable v = true := by
  rcases h with ⟨rfl, _⟩ | rfl
  · rfl
  · rfl

theorem at'_at (x : It) (t : Int) : (x.at' t).at_ = t := rfl
theorem lt_app {S r : Store} {j : Nat} (h : j < S.length) : j < (S ++ r).length := by rw [List.length_append]; omega

theorem turns_ok (script : List Act) (look : Int) (hsc : ∀ a ∈ script, (0 ≤ a.do_ ∧ a.do_ < 256) ∧ (0 ≤ a.now ∧ a.now < 18446744073709551616) ∧ (0 ≤ a.x.at_ ∧ a.x.at_ < 18446744073709551616)) : CallR AP 5 [.imm (encA script), .int .u64 look] (.bool true) := by
  refine callR_of (af := c5) rfl rfl ?_
  refine tc_seq (tc_ops ?_)
  refine tl_opo (o_move rfl) rfl rfl rfl rfl ?_; refine tl_nil ?_
  refine tc_seq (tc_seq (tc_ops ?_))
  refine tl_call' (as := []) (as' := []) rfl frzL_nil awake_ok rfl rfl rfl rfl rfl ?_
  refine tl_opo (o_un rfl rfl) rfl rfl rfl rfl ?_; refine tl_nil ?_
  refine tc_cond rfl (fun h => nomatch h) (fun _ => tc_skip ?_)
  refine tc_seq (tc_seq (tc_ops ?_))
  refine tl_opo (o_move rfl) rfl rfl rfl rfl ?_; refine tl_opo (o_len_imm rfl) rfl rfl rfl rfl ?_
  by_cases hn : script.length ≤ 300
  case neg =>
    refine tl_opo (o_gtr' rfl rfl (t := true) (by simp; omega)) rfl rfl rfl rfl ?_
    refine tl_nil ?_
    refine tc_cond rfl (fun _ => ?_) (fun h => nomatch h)
    refine tc_seq (tc_ops ?_)
    refine tl_opo (o_move rfl) rfl rfl rfl rfl ?_; refine tl_nil ?_
    exact tc_ret (retd rfl ⟨_, frz_ok rfl⟩)
  refine tl_opo (o_gtr' rfl rfl (t := false) (by simp; omega)) rfl rfl rfl rfl ?_
  refine tl_nil ?_
  refine tc_cond rfl (fun h => nomatch h) (fun _ => tc_skip ?_)
  refine tc_seq (tc_ops ?_)
  refine tl_opn o_alloc rfl rfl rfl rfl ?_; refine tl_nil ?_
  dsimp only [putM, initM, acells, effS, List.nil_append, List.cons_append, List.length_nil, List.length_cons, List.set_cons_zero, List.set_cons_succ, List.set_nil, List.append_nil, Nat.zero_add, Nat.add_zero, Nat.reduceAdd, List.replicate, nslots]
  refine tc_seq (tc_ops ?_)
  refine tl_opo (o_move rfl) rfl rfl rfl rfl ?_; refine tl_nil ?_
  refine tc_cut (σ := AVal × AVal × List It) (fun s => [(1, .int .u64 look), (5, .ptr 1 0 0), (6, s.2.1)]) (fun s S => TOk s.1 s.2.1 s.2.2 S) ?_ ?_
  · refine tc_seq (tc_ops ?_)
    refine tl_opo (o_move rfl) rfl rfl rfl rfl ?_; refine tl_opo (o_len_imm rfl) rfl rfl rfl rfl ?_; refine tl_opo (o_move rfl) rfl rfl rfl rfl ?_; refine tl_nil ?_
    refine tc_block (loop_st (σ := TSt) (fun s => script.length - s.i) (fun s => [(1, .int .u64 look), (5, .ptr 1 0 0), (6, s.q), (28, .imm (encA script)), (29, .int .i64 (encA script).length), (30, .int .i64 s.i)])
      (fun s S => s.i ≤ script.length ∧ TOk s.L s.q s.items S) ⟨0, .nils, .nils, []⟩ (by (repeat' (first | exact wk_nil | refine wk_cons rfl ?_))) ⟨Nat.zero_le _, .inl ⟨rfl, rfl⟩, .inl ⟨rfl, rfl⟩, rfl, by simp, fun x hx => by simp at hx⟩ ?_)
    rintro ⟨i, L, q, items⟩ S ⟨hi, hL, hq, hS, hil, hrg⟩
    simp only at hi hL hq hS hil hrg
    have hS1 : 1 < S.length := (List.getElem?_eq_some_iff.1 hS).1
    refine tc_seq (tc_ops ?_)
    refine tl_opo (o_lss rfl rfl) rfl rfl rfl rfl ?_; refine tl_nil ?_
    refine tc_seq (tc_cond rfl (fun h => tc_skip ?_) (fun h => tc_exit ?_))
    · have hi' : i < script.length := by simpa using h
      clear h
      obtain ⟨⟨hd0, hd1⟩, ⟨hn0, hn1⟩, hx0⟩ := hsc _ (List.getElem_mem hi')
      generalize hact : script[i] = act at hd0 hd1 hn0 hn1 hx0
      have hrow : (encA script)[i]? = some act.row := by rw [encA_get hi', hact]
      refine tc_seq (tc_block (tc_seq (tc_ops ?_)))
      refine tl_opo (o_iaddr rfl rfl hrow rfl) rfl rfl rfl rfl ?_
      refine tl_opo (o_loadr rfl (Nat.le_of_ble_eq_true rfl) rfl) rfl rfl rfl rfl ?_
      refine tl_opn o_alloc rfl rfl rfl rfl ?_
      rw [set_snoc]
      refine tl_opo (o_store rfl rfl get_snoc rfl rfl rfl rfl (Nat.le_of_ble_eq_true rfl) rfl) rfl rfl rfl rfl ?_
      rw [set_snoc]
      refine tl_nil ?_
      generalize hS' : S ++ [_] = S'
      have hgA : S'[S.length]? = some (some ⟨9, [act.row]⟩) := by rw [← hS']; exact get_snoc
      have hgL : S'[1]? = some (some ⟨1, [[L]]⟩) := by rw [← hS']; exact get_app hS
      have hlS : 1 < S'.length := (List.getElem?_eq_some_iff.1 hgL).1
      have hn81 : 1 < S.length := hS1
      generalize S.length = n8 at hgA hn81
      clear hS' hS hS1
      refine tc_cut (σ := Bool) (fun t => [(1, .int .u64 look), (5, .ptr 1 0 0), (6, q), (8, .ptr n8 0 0), (9, .bool t), (28, .imm (encA script)), (29, .int .i64 (encA script).length), (30, .int .i64 i)]) (fun t S => t = decide (has items act.i) ∧ S = S') ?_ ?_
      · refine tc_ops ?_
        refine tl_opo (o_faddr rfl) rfl rfl rfl rfl ?_
        refine tl_opo (o_load rfl hgA rfl (Nat.le_of_ble_eq_true rfl) rfl) rfl rfl rfl rfl ?_
        by_cases h0 : 0 ≤ act.i
        · refine tl_opo (o_geq' rfl rfl (t := true) (by simpa using h0)) rfl rfl rfl rfl ?_
          refine tl_opo (o_move rfl) rfl rfl rfl rfl ?_; refine tl_opo (o_faddr rfl) rfl rfl rfl rfl ?_
          refine tl_opo (o_load rfl hgA rfl (Nat.le_of_ble_eq_true rfl) rfl) rfl rfl rfl rfl ?_
          refine tl_opo (o_move rfl) rfl rfl rfl rfl ?_
          rcases hq with ⟨rfl, h⟩ | rfl
          · have : items = [] := by simpa [encR] using h
            subst this
            refine tl_opo (o_len_nils rfl) rfl rfl rfl rfl ?_
            refine tl_opo (o_lss' rfl rfl (t := false) (by simpa using h0)) rfl rfl rfl rfl ?_
            refine tl_opo (o_pick rfl rfl rfl) rfl rfl rfl rfl ?_; refine tl_opo (o_move rfl) rfl rfl rfl rfl ?_; refine tl_nil ?_
            exact ⟨false, by (repeat' (first | exact wk_nil | refine wk_cons rfl ?_)), by have : ¬ has ([] : List It) act.i := (fun h => by have h2 := h.2; have h1 := h.1; simp at h2; omega); simp [this], rfl⟩
          · refine tl_opo (o_len_imm rfl) rfl rfl rfl rfl ?_; refine tl_opo (o_lss rfl rfl) rfl rfl rfl rfl ?_; refine tl_opo (o_pick rfl rfl rfl) rfl rfl rfl rfl ?_; refine tl_opo (o_move rfl) rfl rfl rfl rfl ?_; refine tl_nil ?_
            exact ⟨_, by (repeat' (first | exact wk_nil | refine wk_cons rfl ?_)), by simp [has, h0], rfl⟩
        · refine tl_opo (o_geq' rfl rfl (t := false) (by simpa using h0)) rfl rfl rfl rfl ?_
          refine tl_opo (o_move rfl) rfl rfl rfl rfl ?_; refine tl_off0 rfl rfl rfl ?_; refine tl_off0 rfl rfl rfl ?_; refine tl_off0 rfl rfl rfl ?_; refine tl_off0 rfl rfl rfl ?_; refine tl_off0 rfl rfl rfl ?_; refine tl_opo (o_pick rfl rfl rfl) rfl rfl rfl rfl ?_; refine tl_opo (o_move rfl) rfl rfl rfl rfl ?_; refine tl_nil ?_
          exact ⟨false, by (repeat' (first | exact wk_nil | refine wk_cons rfl ?_)), by simp [has, h0], rfl⟩
      rintro t S ⟨ht, rfl⟩
      refine tc_seq (tc_ops ?_)
      refine tl_opo (o_move rfl) rfl rfl rfl rfl ?_; refine tl_opo (o_move rfl) rfl rfl rfl rfl ?_; refine tl_nil ?_
      refine tc_cut (σ := Unit) (fun _ => [(1, .int .u64 look), (5, .ptr 1 0 0), (6, q), (8, .ptr n8 0 0), (9, .bool t), (10, .int .i64 0), (11, .int .i64 (if t then 0 else 10)), (28, .imm (encA script)), (29, .int .i64 (encA script).length), (30, .int .i64 i)]) (fun _ S' => S' = S) ?_ ?_
      · refine tc_seq (tc_ops ?_)
        refine tl_opo (o_move rfl) rfl rfl rfl rfl ?_; refine tl_opo (o_un rfl rfl) rfl rfl rfl rfl ?_; refine tl_nil ?_
        cases t with
        | true =>
          refine tc_cond rfl (fun h => nomatch h) (fun _ => tc_skip ?_)
          exact ⟨(), by (repeat' (first | exact wk_nil | refine wk_cons rfl ?_)), rfl⟩
        | false =>
          refine tc_cond rfl (fun _ => ?_) (fun h => nomatch h)
          refine tc_ops ?_
          refine tl_opo (o_move rfl) rfl rfl rfl rfl ?_; refine tl_nil ?_
          exact ⟨(), by (repeat' (first | exact wk_nil | refine wk_cons rfl ?_)), rfl⟩
      rintro - S' rfl
      refine tc_seq (tc_ops ?_)
      refine tl_opo (o_load rfl hgL rfl (Nat.le_of_ble_eq_true rfl) rfl) rfl rfl rfl rfl ?_
      refine tl_opo (o_move rfl) rfl rfl rfl rfl ?_
      refine tl_opn o_alloc rfl rfl rfl rfl ?_
      rw [set_snoc]
      refine tl_opo (o_store rfl rfl get_snoc rfl rfl rfl rfl (Nat.le_of_ble_eq_true rfl) (by simp [acells, var_stor hL])) rfl rfl rfl rfl ?_
      rw [set_snoc]
      refine tl_opo (o_move rfl) rfl rfl rfl rfl ?_; refine tl_nil ?_
      generalize hT : S' ++ [_] = T
      have hTA : T[n8]? = some (some ⟨9, [act.row]⟩) := by rw [← hT]; exact get_app hgA
      have hTL : T[1]? = some (some ⟨1, [[L]]⟩) := by rw [← hT]; exact get_app hgL
      have hTW : T[S'.length]? = some (some ⟨1, [[L]]⟩) := by rw [← hT]; exact get_snoc
      have hn8 : n8 < S'.length := (List.getElem?_eq_some_iff.1 hgA).1
      have hT1 : 1 < T.length := (List.getElem?_eq_some_iff.1 hTL).1
      have hw : 1 < S'.length := hlS
      generalize S'.length = b at hTW hn8 hw
      have hbT : b < T.length := (List.getElem?_eq_some_iff.1 hTW).1
      clear hT hgA hgL hlS
      have hnr : AVal.noref L = true := var_noref hL (enc_noref _)
      have hnq : AVal.noref q = true := var_noref hq (encR_noref _)
      refine tc_cut (σ := AVal × AVal × List It × Int) (fun s => [(1, .int .u64 look), (5, .ptr 1 0 0), (6, s.2.1), (10, .int .i64 s.2.2.2), (11, .int .i64 s.2.2.2), (12, .ptr b 0 0), (13, q), (28, .imm (encA script)), (29, .int .i64 (encA script).length), (30, .int .i64 i)]) (fun s S => TOk s.1 s.2.1 s.2.2.1 S ∧ S[b]? = some (some ⟨1, [[L]]⟩)) ?_ ?_
      · refine tc_seq (tc_ops ?_)
        refine tl_opo (o_faddr rfl) rfl rfl rfl rfl ?_
        refine tl_opo (o_load rfl hTA rfl (Nat.le_of_ble_eq_true rfl) rfl) rfl rfl rfl rfl ?_
        refine tl_opo (o_bin rfl rfl (v := .int .u8 (act.do_.tmod 6)) (by simp [abin, isShift, aintop])) rfl rfl rfl rfl ?_
        refine tl_nil ?_
        refine tc_block (tc_seq (tc_ops ?_))
        have hfzL : ∀ {S : Store} n, ∃ ids, (Eng.frz (n + 2) (.agg [L])).run S = some (.agg [.imm (enc items)], ids) := fun n => hL.frz1 (enc_closed _) n
        have hfzQ : ∀ {S : Store} n, ∃ ids, (Eng.frz (n + 1) q).run S = some (.imm (encR (items.map toR)), ids) := fun n => hq.frz (encR_closed _) n
        by_cases h2 : act.do_.tmod 6 = 2
        · refine tl_opo (o_eql' rfl rfl (t := true) (by simpa using h2)) rfl rfl rfl rfl ?_
          refine tl_opo (o_move rfl) rfl rfl rfl rfl ?_; refine tl_nil ?_
          refine tc_cond rfl (fun _ => ?_) (fun h => nomatch h)
          refine tc_seq (tc_ops ?_)
          refine tl_opn o_alloc rfl rfl rfl rfl ?_
          rw [set_snoc]
          refine tl_nil ?_
          generalize hU : T ++ [_] = U
          have hUA : U[n8]? = some (some ⟨9, [act.row]⟩) := by rw [← hU]; exact get_app hTA
          have hUL : U[1]? = some (some ⟨1, [[L]]⟩) := by rw [← hU]; exact get_app hTL
          have hUW : U[b]? = some (some ⟨1, [[L]]⟩) := by rw [← hU]; exact get_app hTW
          have hUX : U[T.length]? = some (some ⟨6, [zeroI]⟩) := by rw [← hU]; exact get_snoc
          generalize hn14 : T.length = n14 at hUX
          rw [hn14] at hT1 hbT
          have hn14' : n14 < U.length := (List.getElem?_eq_some_iff.1 hUX).1
          clear hU
          have hcall := take_ok items act.i act.now (by omega)
          obtain ⟨nl, y, e, htk⟩ : ∃ nl y e, take items act.i act.now = (nl, y, e) := ⟨_, _, _, rfl⟩
          rw [htk] at hcall
          simp only at hcall
          refine tc_seq (tc_ops ?_)
          refine tl_opo (o_load rfl hUL rfl (Nat.le_of_ble_eq_true rfl) rfl) rfl rfl rfl rfl ?_
          refine tl_opo (o_faddr rfl) rfl rfl rfl rfl ?_
          refine tl_opo (o_load rfl hUA rfl (Nat.le_of_ble_eq_true rfl) rfl) rfl rfl rfl rfl ?_
          refine tl_opo (o_faddr rfl) rfl rfl rfl rfl ?_
          refine tl_opo (o_load rfl hUA rfl (Nat.le_of_ble_eq_true rfl) rfl) rfl rfl rfl rfl ?_
          refine tl_call' (as := [.agg [L], .int .i64 act.i, .int .u64 act.now]) (as' := [.agg [.imm (enc items)], .int .i64 act.i, .int .u64 act.now]) rfl (frzL_cons (fun n => hfzL (n + 1)) (frzL_cons (fun n => ⟨_, frz_ok rfl⟩) (frzL_cons (fun n => ⟨_, frz_ok rfl⟩) frzL_nil)))
            hcall (by simp [norefL, AVal.noref, hnr]) rfl rfl rfl rfl ?_
          refine tl_opo (o_move rfl) rfl rfl rfl rfl ?_; refine tl_opo (o_extract rfl rfl) rfl rfl rfl rfl ?_; refine tl_opo (o_extract rfl rfl) rfl rfl rfl rfl ?_; refine tl_opo (o_extract rfl rfl) rfl rfl rfl rfl ?_
          refine tl_opo (o_store rfl rfl (get_app hUL) rfl rfl rfl rfl (Nat.le_of_ble_eq_true rfl) rfl) rfl rfl rfl rfl ?_
          generalize hV : (U ++ [none]).set 1 _ = V
          have hVX : V[n14]? = some (some ⟨6, [zeroI]⟩) := by rw [← hV, set_get, if_neg (by omega)]; exact get_app hUX
          have hVL : V[1]? = some (some ⟨1, [[.imm (enc nl)]]⟩) := by rw [← hV, set_get, if_pos ⟨rfl, lt_app (by omega)⟩]; rfl
          have hVA : V[n8]? = some (some ⟨9, [act.row]⟩) := by rw [← hV, set_get, if_neg (by omega)]; exact get_app hUA
          have hVW : V[b]? = some (some ⟨1, [[L]]⟩) := by rw [← hV, set_get, if_neg (by omega)]; exact get_app hUW
          refine tl_opo (o_store rfl rfl hVX rfl rfl rfl rfl (Nat.le_of_ble_eq_true rfl) rfl) rfl rfl rfl rfl ?_
          generalize hW : V.set n14 _ = W
          have hWX : W[n14]? = some (some ⟨6, [y.row]⟩) := by rw [← hW, set_get, if_pos ⟨rfl, (List.getElem?_eq_some_iff.1 hVX).1⟩]; rfl
          have hWL : W[1]? = some (some ⟨1, [[.imm (enc nl)]]⟩) := by rw [← hW, set_get, if_neg (by omega)]; exact hVL
          have hWA : W[n8]? = some (some ⟨9, [act.row]⟩) := by rw [← hW, set_get, if_neg (by omega)]; exact hVA
          have hWW : W[b]? = some (some ⟨1, [[L]]⟩) := by rw [← hW, set_get, if_neg (by omega)]; exact hVW
          clear hW hV hVX hVL hVA hVW hUA hUL hUW hUX
          refine tl_opo (o_move rfl) rfl rfl rfl rfl ?_; refine tl_nil ?_
          by_cases hh : has items act.i
          · have : t = true := by simpa [hh] using ht
            subst this
            obtain ⟨j, hj⟩ : ∃ j : Nat, act.i = j := ⟨act.i.toNat, by have := hh.1; omega⟩
            have hjl : j < items.length := by have := hh.2; omega
            have hqi : q = .imm (encR (items.map toR)) := var_imm hq (by intro h0; have := congrArg List.length h0; rw [encR_len, List.length_map, List.length_nil] at this; omega)
            subst hqi
            have hqr : (encR (items.map toR))[j]? = some (toR items[j]).row := by simp [encR, hjl]
            have hai : AVal.int .i64 act.i = .int .i64 (j : Int) := by rw [hj]
            rw [hj, take_in hjl] at htk
            by_cases hgt : items[j].at_ > act.now
            · rw [if_pos hgt] at htk
              obtain ⟨rfl, rfl, rfl⟩ : items = nl ∧ It.zero = y ∧ 21 = e := by simpa [Prod.ext_iff] using htk
              refine tc_seq (tc_seq (tc_drawR [] rfl ?_))
              refine td_op rfl rfl (o_move rfl) ?_; refine td_op rfl rfl (o_move rfl) ?_; refine td_op rfl rfl (o_move rfl) ?_; refine td_op rfl rfl (o_faddr rfl) ?_
              refine td_op rfl rfl (o_load (v := .int .i64 (j : Int)) rfl (get_app hWA) rfl (Nat.le_of_ble_eq_true rfl) (by rw [← hj]; rfl)) ?_
              refine td_op rfl rfl (o_iaddr rfl rfl hqr rfl) ?_
              refine td_op rfl rfl (o_faddrr rfl) ?_; refine td_op rfl rfl (o_loadr rfl (Nat.le_of_ble_eq_true rfl) rfl) ?_; refine td_op rfl rfl (o_faddr rfl) ?_
              refine td_op rfl rfl (o_load rfl (get_app hWA) rfl (Nat.le_of_ble_eq_true rfl) rfl) ?_
              refine td_op rfl rfl (o_gtr' rfl rfl (t := true) (by simpa [toR] using hgt)) ?_
              refine td_op rfl rfl (o_pick rfl rfl rfl) ?_; refine td_nil ?_
              refine ⟨rfl, ?_⟩
              refine tc_cond rfl (fun _ => ?_) (fun h => nomatch h)
              refine tc_ops ?_
              refine tl_opo (o_move rfl) rfl rfl rfl rfl ?_; refine tl_nil ?_
              refine tc_seq (tc_ops ?_)
              refine tl_opo (o_move rfl) rfl rfl rfl rfl ?_
              refine tl_opo (o_eql' rfl rfl (t := false) rfl) rfl rfl rfl rfl ?_
              refine tl_nil ?_
              refine tc_cond rfl (fun h => nomatch h) (fun _ => ?_)
              refine tc_seq (tc_ops ?_)
              refine tl_opo (o_load rfl (get_app hWX) rfl (Nat.le_of_ble_eq_true rfl) rfl) rfl rfl rfl rfl ?_
              refine tl_opo (o_build rfl rfl) rfl rfl rfl rfl ?_
              refine tl_opo (o_eqAgg (xs := It.zero.row) (ys := It.zero.row) (b := true) rfl rfl (by rw [row_eq]; simp)) rfl rfl rfl rfl ?_
              refine tl_nil ?_
              refine tc_cond rfl (fun h => nomatch h) (fun _ => tc_skip ?_)
              exact ⟨(.imm (enc items), _, items, 21), by (repeat' (first | exact wk_nil | refine wk_cons rfl ?_)), ⟨.inr rfl, hq, get_app hWL, hil, hrg⟩, get_app hWW⟩
            · rw [if_neg hgt] at htk
              obtain ⟨rfl, rfl, rfl⟩ : lose items (j : Int) = nl ∧ items[j] = y ∧ 0 = e := by simpa [Prod.ext_iff] using htk
              refine tc_seq (tc_seq (tc_drawR [] rfl ?_))
              refine td_op rfl rfl (o_move rfl) ?_; refine td_op rfl rfl (o_move rfl) ?_; refine td_op rfl rfl (o_move rfl) ?_; refine td_op rfl rfl (o_faddr rfl) ?_
              refine td_op rfl rfl (o_load (v := .int .i64 (j : Int)) rfl (get_app hWA) rfl (Nat.le_of_ble_eq_true rfl) (by rw [← hj]; rfl)) ?_
              refine td_op rfl rfl (o_iaddr rfl rfl hqr rfl) ?_
              refine td_op rfl rfl (o_faddrr rfl) ?_; refine td_op rfl rfl (o_loadr rfl (Nat.le_of_ble_eq_true rfl) rfl) ?_; refine td_op rfl rfl (o_faddr rfl) ?_
              refine td_op rfl rfl (o_load rfl (get_app hWA) rfl (Nat.le_of_ble_eq_true rfl) rfl) ?_
              refine td_op rfl rfl (o_gtr' rfl rfl (t := false) (by simpa [toR] using hgt)) ?_
              refine td_op rfl rfl (o_pick rfl rfl rfl) ?_; refine td_nil ?_
              refine ⟨rfl, ?_⟩
              refine tc_cond rfl (fun h => nomatch h) (fun _ => tc_skip ?_)
              refine tc_seq (tc_ops ?_)
              refine tl_opo (o_move rfl) rfl rfl rfl rfl ?_
              refine tl_opo (o_eql' rfl rfl (t := true) rfl) rfl rfl rfl rfl ?_
              refine tl_nil ?_
              refine tc_cond rfl (fun _ => ?_) (fun h => nomatch h)
              refine tc_seq (tc_seq (tc_drawR [none] rfl ?_))
              refine td_op rfl rfl (o_load rfl (get_app (get_app hWX)) rfl (Nat.le_of_ble_eq_true rfl) rfl) ?_
              refine td_op rfl rfl (o_callc (as := [.agg items[j].row]) rfl rfl rfl rfl (to_ok _) rfl) ?_
              refine td_op rfl rfl (o_move rfl) ?_; refine td_op rfl rfl (o_faddr rfl) ?_
              refine td_op rfl rfl (o_load (v := .int .i64 (j : Int)) rfl (get_app (get_app hWA)) rfl (Nat.le_of_ble_eq_true rfl) (by rw [← hj]; rfl)) ?_
              refine td_op rfl rfl (o_iaddr rfl rfl hqr rfl) ?_
              refine td_op rfl rfl (o_loadr rfl (Nat.le_of_ble_eq_true rfl) rfl) ?_
              refine td_op rfl rfl (o_eqAgg (xs := (toR items[j]).row) (ys := (toR items[j]).row) rfl rfl (rrow_eq _)) ?_
              refine td_nil ?_
              refine ⟨rfl, ?_⟩
              refine tc_cond rfl (fun h => nomatch h) (fun _ => tc_skip ?_)
              refine tc_ops ?_
              refine tl_opo (o_move rfl) rfl rfl rfl rfl ?_; refine tl_opo (o_faddr rfl) rfl rfl rfl rfl ?_
              refine tl_opo (o_load rfl (get_app (get_app hWA)) rfl (Nat.le_of_ble_eq_true rfl) rfl) rfl rfl rfl rfl ?_
              refine tl_call' (as := [.imm (encR (items.map toR)), .int .i64 act.i]) (as' := [.imm (encR (items.map toR)), .int .i64 act.i]) rfl (frzL_cons (fun n => hfzQ (n + 2)) (frzL_cons (fun n => ⟨_, frz_ok rfl⟩) frzL_nil))
                (drop_ok _ act.i (by simp; omega)) (by simp [norefL, AVal.noref, Rf.row]) rfl rfl rfl rfl ?_
              rw [drop_lose]
              refine tl_opo (o_move rfl) rfl rfl rfl rfl ?_; refine tl_nil ?_
              exact ⟨(.imm (enc (lose items (j : Int))), .imm (encR ((lose items (j : Int)).map toR)), lose items (j : Int), 0), by rw [← hj]; (repeat' (first | exact wk_nil | refine wk_cons rfl ?_)), ⟨.inr rfl, .inr rfl, get_app (get_app (get_app hWL)), lose_len hil, rng_lose hrg⟩, get_app (get_app (get_app hWW))⟩
          · have : t = false := by simpa [hh] using ht
            subst this
            rw [take_out hh] at htk
            obtain ⟨rfl, rfl, rfl⟩ : items = nl ∧ It.zero = y ∧ 10 = e := by simpa [Prod.ext_iff] using htk
            refine tc_seq (tc_seq (tc_drawR [] rfl ?_))
            refine td_op rfl rfl (o_move rfl) ?_; refine td_op rfl rfl (o_move rfl) ?_; refine td_off rfl rfl ?_; refine td_off rfl rfl ?_; refine td_off rfl rfl ?_; refine td_off rfl rfl ?_; refine td_off rfl rfl ?_; refine td_off rfl rfl ?_; refine td_off rfl rfl ?_; refine td_off rfl rfl ?_; refine td_off rfl rfl ?_; refine td_op rfl rfl (o_pick rfl rfl rfl) ?_; refine td_nil ?_
            refine ⟨rfl, ?_⟩
            refine tc_cond rfl (fun h => nomatch h) (fun _ => tc_skip ?_)
            refine tc_seq (tc_ops ?_)
            refine tl_opo (o_move rfl) rfl rfl rfl rfl ?_
            refine tl_opo (o_eql' rfl rfl (t := false) rfl) rfl rfl rfl rfl ?_
            refine tl_nil ?_
            refine tc_cond rfl (fun h => nomatch h) (fun _ => ?_)
            refine tc_seq (tc_ops ?_)
            refine tl_opo (o_load rfl (get_app hWX) rfl (Nat.le_of_ble_eq_true rfl) rfl) rfl rfl rfl rfl ?_
            refine tl_opo (o_build rfl rfl) rfl rfl rfl rfl ?_
            refine tl_opo (o_eqAgg (xs := It.zero.row) (ys := It.zero.row) (b := true) rfl rfl (by rw [row_eq]; simp)) rfl rfl rfl rfl ?_
            refine tl_nil ?_
            refine tc_cond rfl (fun h => nomatch h) (fun _ => tc_skip ?_)
            exact ⟨(.imm (enc items), q, items, 10), by (repeat' (first | exact wk_nil | refine wk_cons rfl ?_)), ⟨.inr rfl, hq, get_app hWL, hil, hrg⟩, get_app hWW⟩
        refine tl_opo (o_eql' rfl rfl (t := false) (by simpa using h2)) rfl rfl rfl rfl ?_
        refine tl_opo (o_move rfl) rfl rfl rfl rfl ?_; refine tl_nil ?_
        refine tc_cond rfl (fun h => nomatch h) (fun _ => ?_)
        refine tc_seq (tc_ops ?_)
        have hee : (if has items act.i then (0 : Int) else 10) = if t then 0 else 10 := by rw [ht]; by_cases hh : has items act.i <;> simp [hh]
        by_cases h3 : act.do_.tmod 6 = 3
        · refine tl_opo (o_eql' rfl rfl (t := true) (by simpa using h3)) rfl rfl rfl rfl ?_
          refine tl_opo (o_move rfl) rfl rfl rfl rfl ?_; refine tl_nil ?_
          refine tc_cond rfl (fun _ => ?_) (fun h => nomatch h)
          refine tc_seq (tc_ops ?_)
          refine tl_opo (o_load rfl hTL rfl (Nat.le_of_ble_eq_true rfl) rfl) rfl rfl rfl rfl ?_
          refine tl_opo (o_faddr rfl) rfl rfl rfl rfl ?_
          refine tl_opo (o_load rfl hTA rfl (Nat.le_of_ble_eq_true rfl) rfl) rfl rfl rfl rfl ?_
          have hcall := lose_ok items act.i (by omega)
          rw [hee] at hcall
          refine tl_call' (as := [.agg [L], .int .i64 act.i]) (as' := [.agg [.imm (enc items)], .int .i64 act.i]) rfl (frzL_cons (fun n => hfzL (n + 1)) (frzL_cons (fun n => ⟨_, frz_ok rfl⟩) frzL_nil))
            hcall (by simp [norefL, AVal.noref, hnr]) rfl rfl rfl rfl ?_
          refine tl_opo (o_move rfl) rfl rfl rfl rfl ?_; refine tl_opo (o_extract rfl rfl) rfl rfl rfl rfl ?_; refine tl_opo (o_extract rfl rfl) rfl rfl rfl rfl ?_
          refine tl_opo (o_store rfl rfl (get_app hTL) rfl rfl rfl rfl (Nat.le_of_ble_eq_true rfl) rfl) rfl rfl rfl rfl ?_
          generalize hV : (T ++ [none]).set 1 _ = V
          have hVL : V[1]? = some (some ⟨1, [[.imm (enc (lose items act.i))]]⟩) := by rw [← hV, set_get, if_pos ⟨rfl, lt_app (by omega)⟩]; rfl
          have hVA : V[n8]? = some (some ⟨9, [act.row]⟩) := by rw [← hV, set_get, if_neg (by omega)]; exact get_app hTA
          have hVW : V[b]? = some (some ⟨1, [[L]]⟩) := by rw [← hV, set_get, if_neg (by omega)]; exact get_app hTW
          refine tl_opo (o_move rfl) rfl rfl rfl rfl ?_; refine tl_nil ?_
          refine tc_ops ?_
          refine tl_opo (o_move rfl) rfl rfl rfl rfl ?_; refine tl_opo (o_faddr rfl) rfl rfl rfl rfl ?_
          refine tl_opo (o_load rfl hVA rfl (Nat.le_of_ble_eq_true rfl) rfl) rfl rfl rfl rfl ?_
          refine tl_call' (as := [q, .int .i64 act.i]) (as' := [.imm (encR (items.map toR)), .int .i64 act.i]) rfl (frzL_cons (fun n => hfzQ (n + 2)) (frzL_cons (fun n => ⟨_, frz_ok rfl⟩) frzL_nil))
            (drop_ok _ act.i (by simp; omega)) (by simp [norefL, AVal.noref, hnq]) rfl rfl rfl rfl ?_
          rw [drop_lose]
          refine tl_opo (o_move rfl) rfl rfl rfl rfl ?_; refine tl_nil ?_
          exact ⟨(.imm (enc (lose items act.i)), .imm (encR ((lose items act.i).map toR)), lose items act.i, if t then 0 else 10), by (repeat' (first | exact wk_nil | refine wk_cons rfl ?_)), ⟨.inr rfl, .inr rfl, get_app hVL, lose_len hil, rng_lose hrg⟩, get_app hVW⟩
        refine tl_opo (o_eql' rfl rfl (t := false) (by simpa using h3)) rfl rfl rfl rfl ?_
        refine tl_opo (o_move rfl) rfl rfl rfl rfl ?_; refine tl_nil ?_
        refine tc_cond rfl (fun h => nomatch h) (fun _ => ?_)
        refine tc_seq (tc_ops ?_)
        by_cases h4 : act.do_.tmod 6 = 4
        · refine tl_opo (o_eql' rfl rfl (t := true) (by simpa using h4)) rfl rfl rfl rfl ?_
          refine tl_opo (o_move rfl) rfl rfl rfl rfl ?_; refine tl_nil ?_
          refine tc_cond rfl (fun _ => ?_) (fun h => nomatch h)
          refine tc_seq (tc_ops ?_)
          refine tl_opo (o_load rfl hTL rfl (Nat.le_of_ble_eq_true rfl) rfl) rfl rfl rfl rfl ?_
          refine tl_opo (o_faddr rfl) rfl rfl rfl rfl ?_
          refine tl_opo (o_load rfl hTA rfl (Nat.le_of_ble_eq_true rfl) rfl) rfl rfl rfl rfl ?_
          refine tl_opo (o_faddr rfl) rfl rfl rfl rfl ?_
          refine tl_opo (o_load rfl hTA rfl (Nat.le_of_ble_eq_true rfl) rfl) rfl rfl rfl rfl ?_
          have hcall := double_ok items act.i act.now (by omega)
          rw [hee] at hcall
          refine tl_call' (as := [.agg [L], .int .i64 act.i, .int .u64 act.now]) (as' := [.agg [.imm (enc items)], .int .i64 act.i, .int .u64 act.now]) rfl (frzL_cons (fun n => hfzL (n + 1)) (frzL_cons (fun n => ⟨_, frz_ok rfl⟩) (frzL_cons (fun n => ⟨_, frz_ok rfl⟩) frzL_nil)))
            hcall (by simp [norefL, AVal.noref, hnr]) rfl rfl rfl rfl ?_
          refine tl_opo (o_move rfl) rfl rfl rfl rfl ?_; refine tl_opo (o_extract rfl rfl) rfl rfl rfl rfl ?_; refine tl_opo (o_extract rfl rfl) rfl rfl rfl rfl ?_
          refine tl_opo (o_store rfl rfl (get_app hTL) rfl rfl rfl rfl (Nat.le_of_ble_eq_true rfl) rfl) rfl rfl rfl rfl ?_
          generalize hV : (T ++ [none]).set 1 _ = V
          have hVL : V[1]? = some (some ⟨1, [[.imm (enc (dbl items act.i act.now))]]⟩) := by rw [← hV, set_get, if_pos ⟨rfl, lt_app (by omega)⟩]; rfl
          have hVA : V[n8]? = some (some ⟨9, [act.row]⟩) := by rw [← hV, set_get, if_neg (by omega)]; exact get_app hTA
          have hVW : V[b]? = some (some ⟨1, [[L]]⟩) := by rw [← hV, set_get, if_neg (by omega)]; exact get_app hTW
          have hV1 : 1 < V.length := (List.getElem?_eq_some_iff.1 hVL).1
          clear hV
          refine tl_opo (o_move rfl) rfl rfl rfl rfl ?_; refine tl_nil ?_
          refine tc_seq (tc_ops ?_)
          refine tl_opo (o_move rfl) rfl rfl rfl rfl ?_; refine tl_nil ?_
          by_cases hh : has items act.i
          · have : t = true := by simpa [hh] using ht
            subst this
            refine tc_cond rfl (fun _ => ?_) (fun h => nomatch h)
            obtain ⟨j, hj⟩ : ∃ j : Nat, act.i = j := ⟨act.i.toNat, by have := hh.1; omega⟩
            have hjl : j < items.length := by have := hh.2; omega
            have hqi : q = .imm (encR (items.map toR)) := var_imm hq (by intro h0; have := congrArg List.length h0; rw [encR_len, List.length_map, List.length_nil] at this; omega)
            subst hqi
            have hqr : (encR (items.map toR))[j]? = some (toR items[j]).row := by simp [encR, hjl]
            have hsend := rsend_ok (items.map toR) ((toR items[j]).at' act.now) (by simp; omega)
            rw [← toR_at, rsend_send hil, ← dbl_in hjl, ← hj] at hsend
            refine tc_seq (tc_ops ?_)
            refine tl_opo (o_move rfl) rfl rfl rfl rfl ?_; refine tl_opo (o_faddr rfl) rfl rfl rfl rfl ?_
            refine tl_opo (o_load (v := .int .i64 (j : Int)) rfl hVA rfl (Nat.le_of_ble_eq_true rfl) (by rw [← hj]; rfl)) rfl rfl rfl rfl ?_
            refine tl_opo (o_iaddr rfl rfl hqr rfl) rfl rfl rfl rfl ?_
            refine tl_opo (o_loadr rfl (Nat.le_of_ble_eq_true rfl) rfl) rfl rfl rfl rfl ?_
            refine tl_opn o_alloc rfl rfl rfl rfl ?_
            rw [set_snoc]
            refine tl_opo (o_store rfl rfl get_snoc rfl rfl rfl rfl (Nat.le_of_ble_eq_true rfl) rfl) rfl rfl rfl rfl ?_
            rw [set_snoc]
            refine tl_nil ?_
            refine tc_seq (tc_ops ?_)
            refine tl_opo (o_faddr rfl) rfl rfl rfl rfl ?_
            refine tl_opo (o_load rfl (get_app hVA) rfl (Nat.le_of_ble_eq_true rfl) rfl) rfl rfl rfl rfl ?_
            refine tl_opo (o_faddr rfl) rfl rfl rfl rfl ?_
            refine tl_opo (o_store rfl rfl get_snoc rfl rfl rfl rfl (Nat.le_of_ble_eq_true rfl) rfl) rfl rfl rfl rfl ?_
            rw [set_snoc]
            refine tl_nil ?_
            refine tc_ops ?_
            refine tl_opo (o_move rfl) rfl rfl rfl rfl ?_
            refine tl_opo (o_load rfl get_snoc rfl (Nat.le_of_ble_eq_true rfl) rfl) rfl rfl rfl rfl ?_
            refine tl_call' (as := [.imm (encR (items.map toR)), .agg ((toR items[j]).at' act.now).row]) (as' := [.imm (encR (items.map toR)), .agg ((toR items[j]).at' act.now).row]) rfl (frzL_cons (fun n => hfzQ (n + 2)) (frzL_cons (fun n => ⟨_, frz_ok rfl⟩) frzL_nil))
              hsend (by simp [norefL, AVal.noref, Rf.row]) rfl rfl rfl rfl ?_
            refine tl_opo (o_move rfl) rfl rfl rfl rfl ?_; refine tl_nil ?_
            refine ⟨(.imm (enc (dbl items act.i act.now)), .imm (encR ((dbl items act.i act.now).map toR)), dbl items act.i act.now, 0), by (repeat' (first | exact wk_nil | refine wk_cons rfl ?_)), ⟨.inr rfl, .inr rfl, get_app (get_app hVL), dbl_len hil, ?_⟩, get_app (get_app hVW)⟩
            simp only
            rw [hj, dbl_in hjl]
            have hx1 : 0 ≤ (items[j].at' act.now).at_ ∧ (items[j].at' act.now).at_ < 18446744073709551616 := by rw [at'_at]; exact ⟨hn0, hn1⟩
            exact rng_send hrg hx1
          · have : t = false := by simpa [hh] using ht
            subst this
            refine tc_cond rfl (fun h => nomatch h) (fun _ => tc_skip ?_)
            rw [dbl_out hh] at hVL
            exact ⟨(.imm (enc items), q, items, 10), by (repeat' (first | exact wk_nil | refine wk_cons rfl ?_)), ⟨.inr rfl, hq, hVL, hil, hrg⟩, hVW⟩
        refine tl_opo (o_eql' rfl rfl (t := false) (by simpa using h4)) rfl rfl rfl rfl ?_
        refine tl_opo (o_move rfl) rfl rfl rfl rfl ?_; refine tl_nil ?_
        refine tc_cond rfl (fun h => nomatch h) (fun _ => ?_)
        refine tc_seq (tc_ops ?_)
        by_cases h5 : act.do_.tmod 6 = 5
        · refine tl_opo (o_eql' rfl rfl (t := true) (by simpa using h5)) rfl rfl rfl rfl ?_
          refine tl_opo (o_move rfl) rfl rfl rfl rfl ?_; refine tl_nil ?_
          refine tc_cond rfl (fun _ => ?_) (fun h => nomatch h)
          refine tc_seq (tc_ops ?_)
          refine tl_opo (o_load rfl hTL rfl (Nat.le_of_ble_eq_true rfl) rfl) rfl rfl rfl rfl ?_
          refine tl_opo (o_faddr rfl) rfl rfl rfl rfl ?_
          refine tl_opo (o_load rfl hTA rfl (Nat.le_of_ble_eq_true rfl) rfl) rfl rfl rfl rfl ?_
          refine tl_opo (o_faddr rfl) rfl rfl rfl rfl ?_
          refine tl_opo (o_load rfl hTA rfl (Nat.le_of_ble_eq_true rfl) rfl) rfl rfl rfl rfl ?_
          have hcall := delay_ok items act.i act.now (by omega)
          rw [hee] at hcall
          refine tl_call' (as := [.agg [L], .int .i64 act.i, .int .u64 act.now]) (as' := [.agg [.imm (enc items)], .int .i64 act.i, .int .u64 act.now]) rfl (frzL_cons (fun n => hfzL (n + 1)) (frzL_cons (fun n => ⟨_, frz_ok rfl⟩) (frzL_cons (fun n => ⟨_, frz_ok rfl⟩) frzL_nil)))
            hcall (by simp [norefL, AVal.noref, hnr]) rfl rfl rfl rfl ?_
          refine tl_opo (o_move rfl) rfl rfl rfl rfl ?_; refine tl_opo (o_extract rfl rfl) rfl rfl rfl rfl ?_; refine tl_opo (o_extract rfl rfl) rfl rfl rfl rfl ?_
          refine tl_opo (o_store rfl rfl (get_app hTL) rfl rfl rfl rfl (Nat.le_of_ble_eq_true rfl) rfl) rfl rfl rfl rfl ?_
          generalize hV : (T ++ [none]).set 1 _ = V
          have hVL : V[1]? = some (some ⟨1, [[.imm (enc (delay items act.i act.now))]]⟩) := by rw [← hV, set_get, if_pos ⟨rfl, lt_app (by omega)⟩]; rfl
          have hVA : V[n8]? = some (some ⟨9, [act.row]⟩) := by rw [← hV, set_get, if_neg (by omega)]; exact get_app hTA
          have hVW : V[b]? = some (some ⟨1, [[L]]⟩) := by rw [← hV, set_get, if_neg (by omega)]; exact get_app hTW
          have hV1 : 1 < V.length := (List.getElem?_eq_some_iff.1 hVL).1
          clear hV
          refine tl_opo (o_move rfl) rfl rfl rfl rfl ?_; refine tl_nil ?_
          refine tc_seq (tc_ops ?_)
          refine tl_opo (o_move rfl) rfl rfl rfl rfl ?_; refine tl_nil ?_
          by_cases hh : has items act.i
          · have : t = true := by simpa [hh] using ht
            subst this
            refine tc_cond rfl (fun _ => ?_) (fun h => nomatch h)
            obtain ⟨j, hj⟩ : ∃ j : Nat, act.i = j := ⟨act.i.toNat, by have := hh.1; omega⟩
            have hjl : j < items.length := by have := hh.2; omega
            have hqi : q = .imm (encR (items.map toR)) := var_imm hq (by intro h0; have := congrArg List.length h0; rw [encR_len, List.length_map, List.length_nil] at this; omega)
            subst hqi
            have hqr : (encR (items.map toR))[j]? = some (toR items[j]).row := by simp [encR, hjl]
            refine tc_seq (tc_ops ?_)
            refine tl_opo (o_move rfl) rfl rfl rfl rfl ?_; refine tl_opo (o_faddr rfl) rfl rfl rfl rfl ?_
            refine tl_opo (o_load (v := .int .i64 (j : Int)) rfl hVA rfl (Nat.le_of_ble_eq_true rfl) (by rw [← hj]; rfl)) rfl rfl rfl rfl ?_
            refine tl_opo (o_iaddr rfl rfl hqr rfl) rfl rfl rfl rfl ?_
            refine tl_opo (o_loadr rfl (Nat.le_of_ble_eq_true rfl) rfl) rfl rfl rfl rfl ?_
            refine tl_opn o_alloc rfl rfl rfl rfl ?_
            rw [set_snoc]
            refine tl_opo (o_store rfl rfl get_snoc rfl rfl rfl rfl (Nat.le_of_ble_eq_true rfl) rfl) rfl rfl rfl rfl ?_
            rw [set_snoc]
            refine tl_nil ?_
            refine tc_seq (tc_ops ?_)
            refine tl_opo (o_faddr rfl) rfl rfl rfl rfl ?_
            refine tl_opo (o_load rfl get_snoc rfl (Nat.le_of_ble_eq_true rfl) rfl) rfl rfl rfl rfl ?_
            refine tl_opo (o_faddr rfl) rfl rfl rfl rfl ?_
            refine tl_opo (o_load rfl (get_app hVA) rfl (Nat.le_of_ble_eq_true rfl) rfl) rfl rfl rfl rfl ?_
            refine tl_call' (as := [.int .u64 items[j].at_, .int .u64 act.now]) (as' := [.int .u64 items[j].at_, .int .u64 act.now]) rfl (frzL_cons (fun n => ⟨_, frz_ok rfl⟩) (frzL_cons (fun n => ⟨_, frz_ok rfl⟩) frzL_nil))
              (later_ok _ _) rfl rfl rfl rfl rfl ?_
            rw [later_addU (hrg _ (List.getElem_mem hjl)).1 (hrg _ (List.getElem_mem hjl)).2 hn0 hn1]
            refine tl_opo (o_faddr rfl) rfl rfl rfl rfl ?_
            refine tl_opo (o_store rfl rfl (get_app get_snoc) rfl rfl rfl rfl (Nat.le_of_ble_eq_true rfl) rfl) rfl rfl rfl rfl ?_
            generalize hX : (V ++ [_] ++ [none]).set _ _ = X
            have hXn : X[V.length]? = some (some ⟨4, [((toR items[j]).at' (addU items[j].at_ act.now)).row]⟩) := by rw [← hX, set_get, if_pos ⟨rfl, lt_app (by simp)⟩]; rfl
            have hXo : ∀ k, k < V.length → X[k]? = V[k]? := fun k hk => by
              rw [← hX, set_get, if_neg (by omega), List.getElem?_append_left (by simp; omega), List.getElem?_append_left hk]
            have hset := rset_ok (items.map toR) j ((toR items[j]).at' (addU items[j].at_ act.now)) (by simpa using hjl) (by simp; omega)
            rw [← toR_at, ← List.map_set, ← delay_in hjl, ← hj] at hset
            rw [hj] at hset
            refine tl_nil ?_
            refine tc_ops ?_
            refine tl_opo (o_move rfl) rfl rfl rfl rfl ?_; refine tl_opo (o_faddr rfl) rfl rfl rfl rfl ?_
            refine tl_opo (o_load (v := .int .i64 (j : Int)) rfl (by rw [hXo _ (List.getElem?_eq_some_iff.1 hVA).1]; exact hVA) rfl (Nat.le_of_ble_eq_true rfl) (by rw [← hj]; rfl)) rfl rfl rfl rfl ?_
            refine tl_opo (o_load rfl hXn rfl (Nat.le_of_ble_eq_true rfl) rfl) rfl rfl rfl rfl ?_
            refine tl_call' (as := [.imm (encR (items.map toR)), .int .i64 (j : Int), .agg ((toR items[j]).at' (addU items[j].at_ act.now)).row]) (as' := [.imm (encR (items.map toR)), .int .i64 (j : Int), .agg ((toR items[j]).at' (addU items[j].at_ act.now)).row]) rfl (frzL_cons (fun n => hfzQ (n + 2)) (frzL_cons (fun n => ⟨_, frz_ok rfl⟩) (frzL_cons (fun n => ⟨_, frz_ok rfl⟩) frzL_nil)))
              hset (by simp [norefL, AVal.noref, Rf.row]) rfl rfl rfl rfl ?_
            refine tl_opo (o_move rfl) rfl rfl rfl rfl ?_; refine tl_nil ?_
            rw [hj] at hVL
            refine ⟨(.imm (enc (delay items (j : Int) act.now)), .imm (encR ((delay items (j : Int) act.now).map toR)), delay items (j : Int) act.now, 0), by (repeat' (first | exact wk_nil | refine wk_cons rfl ?_)), ⟨.inr rfl, .inr rfl, get_app (by rw [hXo 1 hV1]; exact hVL), by simp only; rw [delay_len]; exact hil, ?_⟩, get_app (by rw [hXo b (List.getElem?_eq_some_iff.1 hVW).1]; exact hVW)⟩
            exact rng_delay hjl hrg
          · have : t = false := by simpa [hh] using ht
            subst this
            refine tc_cond rfl (fun h => nomatch h) (fun _ => tc_skip ?_)
            rw [delay_out hh] at hVL
            exact ⟨(.imm (enc items), q, items, 10), by (repeat' (first | exact wk_nil | refine wk_cons rfl ?_)), ⟨.inr rfl, hq, hVL, hil, hrg⟩, hVW⟩
        refine tl_opo (o_eql' rfl rfl (t := false) (by simpa using h5)) rfl rfl rfl rfl ?_
        refine tl_opo (o_move rfl) rfl rfl rfl rfl ?_; refine tl_nil ?_
        refine tc_cond rfl (fun h => nomatch h) (fun _ => ?_)
        have hsend := rsend_ok (items.map toR) (toR act.x) (by simp; omega)
        rw [rsend_send hil] at hsend
        refine tc_drawR [none, none, none] rfl ?_
        refine td_op rfl rfl (o_load rfl (get_app hTL) rfl (Nat.le_of_ble_eq_true rfl) rfl) ?_
        refine td_op rfl rfl (o_faddr rfl) ?_
        refine td_op rfl rfl (o_load rfl (get_app hTA) rfl (Nat.le_of_ble_eq_true rfl) rfl) ?_
        refine td_op rfl rfl (o_callz (as := [.agg [L], .agg act.x.row]) (as' := [.agg [.imm (enc items)], .agg act.x.row]) rfl (frz0_cons (frz0_agg1 (hL.frz0 (enc_closed _) 4)) (frz0_cons (frz_ok rfl) frz0_nil)) rfl rfl (send_ok items act.x (by omega)) (by simp [norefL, AVal.noref, hnr, It.row])) ?_
        refine td_op rfl rfl (o_move rfl) ?_; refine td_op rfl rfl (o_faddr rfl) ?_
        refine td_op rfl rfl (o_load rfl (get_app hTA) rfl (Nat.le_of_ble_eq_true rfl) rfl) ?_
        refine td_op rfl rfl (o_callc (as := [.agg act.x.row]) rfl rfl rfl rfl (to_ok _) rfl) ?_
        refine td_op rfl rfl (o_callz (as := [q, .agg (toR act.x).row]) (as' := [.imm (encR (items.map toR)), .agg (toR act.x).row]) rfl (frz0_cons (hq.frz0 (encR_closed _) 5) (frz0_cons (frz_ok rfl) frz0_nil)) rfl rfl hsend (by simp [norefL, AVal.noref, hnq, Rf.row])) ?_
        refine td_op rfl rfl (o_store rfl rfl (get_app hTL) rfl rfl rfl rfl (Nat.le_of_ble_eq_true rfl) rfl) ?_
        refine td_op rfl rfl (o_move rfl) ?_; refine td_op rfl rfl (o_move rfl) ?_; refine td_nil ?_
        refine ⟨rfl, ?_⟩
        have hr1 : Rng (send items act.x) := rng_send hrg hx0
        have hl1 := send_len (x := act.x) hil
        generalize send items act.x = its at hr1 hl1
        refine ⟨(.imm (enc its), .imm (encR (its.map toR)), its, 0), by (repeat' (first | exact wk_nil | refine wk_cons rfl ?_)), ⟨.inr rfl, .inr rfl, ?_, hl1, hr1⟩, ?_⟩
        · rw [set_get, if_pos ⟨rfl, lt_app (by omega)⟩]; rfl
        · rw [set_get, if_neg (by omega)]; exact get_app hTW
      · rintro ⟨L2, q2, items2, e⟩ S2 ⟨⟨hL2, hq2, hS2, hil2, hrg2⟩, hb2⟩
        simp only at hL2 hq2 hS2 hil2 hrg2
        have hnr2 : AVal.noref L2 = true := var_noref hL2 (enc_noref _)
        have hnq2 : AVal.noref q2 = true := var_noref hq2 (encR_noref _)
        refine tc_seq (tc_ops ?_)
        refine tl_opo (o_move rfl) rfl rfl rfl rfl ?_; refine tl_opo (o_move rfl) rfl rfl rfl rfl ?_
        refine tl_opo (o_neq' rfl rfl (t := false) (by simp)) rfl rfl rfl rfl ?_
        refine tl_opo (o_move rfl) rfl rfl rfl rfl ?_
        refine tl_opo (o_load rfl hS2 rfl (Nat.le_of_ble_eq_true rfl) rfl) rfl rfl rfl rfl ?_
        refine tl_opo (o_move rfl) rfl rfl rfl rfl ?_
        refine tl_call' (as := [.agg [L2], q2]) (as' := [.agg [.imm (enc items2)], .imm (encR (items2.map toR))]) rfl (frzL_cons (fun n => hL2.frz1 (enc_closed _) (n + 1)) (frzL_cons (fun n => hq2.frz (encR_closed _) (n + 2)) frzL_nil))
          (is_ok items2 (by omega)) (by simp [norefL, AVal.noref, hnr2, hnq2]) rfl rfl rfl rfl ?_
        refine tl_opo (o_un rfl rfl) rfl rfl rfl rfl ?_; refine tl_opo (o_pick rfl rfl rfl) rfl rfl rfl rfl ?_; refine tl_opo (o_move rfl) rfl rfl rfl rfl ?_
        refine tl_opo (o_load rfl (get_app hb2) rfl (Nat.le_of_ble_eq_true rfl) rfl) rfl rfl rfl rfl ?_
        refine tl_opo (o_move rfl) rfl rfl rfl rfl ?_
        refine tl_call' (as := [.agg [L], q]) (as' := [.agg [.imm (enc items)], .imm (encR (items.map toR))]) rfl (frzL_cons (fun n => hL.frz1 (enc_closed _) (n + 1)) (frzL_cons (fun n => hq.frz (encR_closed _) (n + 2)) frzL_nil))
          (is_ok items (by omega)) (by simp [norefL, AVal.noref, hnr, hnq]) rfl rfl rfl rfl ?_
        refine tl_opo (o_un rfl rfl) rfl rfl rfl rfl ?_; refine tl_opo (o_pick rfl rfl rfl) rfl rfl rfl rfl ?_; refine tl_nil ?_
        refine tc_cond rfl (fun h => nomatch h) (fun _ => tc_skip ?_)
        refine tc_ops ?_
        refine tl_opo (o_add rfl rfl (c := ((i + 1 : Nat) : Int)) (by simp) (by omega) (by omega)) rfl rfl rfl rfl ?_
        refine tl_opo (o_move rfl) rfl rfl rfl rfl ?_; refine tl_nil ?_
        exact ⟨⟨i + 1, L2, q2, items2⟩, by simp only; omega, by (repeat' (first | exact wk_nil | refine wk_cons rfl ?_)), by simp only; omega, hL2, hq2, get_app (get_app hS2), hil2, hrg2⟩
    · exact ⟨(L, q, items), by (repeat' (first | exact wk_nil | refine wk_cons rfl ?_)), hL, hq, hS, hil, hrg⟩
  · rintro ⟨L, q, items⟩ S ⟨hL, hq, hS, hil, hrg⟩
    simp only at hL hq hS hil hrg
    have hS1 : 1 < S.length := (List.getElem?_eq_some_iff.1 hS).1
    have hnr : AVal.noref L = true := var_noref hL (enc_noref _)
    refine tc_seq (tc_ops ?_)
    refine tl_opo (o_move rfl) rfl rfl rfl rfl ?_; refine tl_nil ?_
    refine tc_seq (tc_ops ?_)
    refine tl_opo (o_move rfl) rfl rfl rfl rfl ?_; refine tl_nil ?_
    refine tc_cut (σ := AVal) (fun v => [(1, .int .u64 look), (5, .ptr 1 0 0), (6, q), (17, v), (18, .int .u64 (leastTo items items.length))]) (fun v S => S[1]? = some (some ⟨1, [[L]]⟩) ∧ Acc 2 1 S v (encI (readyTo items look items.length))) ?_ ?_
    · refine tc_seq (tc_ops ?_)
      refine tl_opo (o_move rfl) rfl rfl rfl rfl ?_
      rcases hq with ⟨rfl, h⟩ | rfl
      · have : items = [] := by simpa [encR] using h
        subst this
        refine tl_opo (o_len_nils rfl) rfl rfl rfl rfl ?_; refine tl_opo (o_move rfl) rfl rfl rfl rfl ?_; refine tl_nil ?_
        refine tc_block (loop_st (σ := Unit) (fun _ => 0) (fun _ => [(1, .int .u64 look), (5, .ptr 1 0 0), (6, .nils), (17, .nils), (18, .int .u64 0), (182, .int .i64 0), (183, .int .i64 0)]) (fun _ S' => S'[1]? = some (some ⟨1, [[L]]⟩)) () (by (repeat' (first | exact wk_nil | refine wk_cons rfl ?_))) hS ?_)
        rintro - S' hS'
        refine tc_seq (tc_ops ?_)
        refine tl_opo (o_lss rfl rfl) rfl rfl rfl rfl ?_; refine tl_nil ?_
        refine tc_seq (tc_cond rfl (fun h => by simp at h) (fun h => tc_exit ?_))
        exact ⟨.nils, by (repeat' (first | exact wk_nil | refine wk_cons rfl ?_)), hS', acc_nil⟩
      · refine tl_opo (o_len_imm rfl) rfl rfl rfl rfl ?_; refine tl_opo (o_move rfl) rfl rfl rfl rfl ?_; refine tl_nil ?_
        refine tc_block (loop_st (σ := Nat × AVal) (fun s => items.length - s.1) (fun s => [(1, .int .u64 look), (5, .ptr 1 0 0), (6, .imm (encR (items.map toR))), (17, s.2), (18, .int .u64 (leastTo items s.1)), (181, .imm (encR (items.map toR))), (182, .int .i64 (encR (items.map toR)).length), (183, .int .i64 s.1)])
          (fun s S' => s.1 ≤ items.length ∧ S'[1]? = some (some ⟨1, [[L]]⟩) ∧ Acc 2 1 S' s.2 (encI (readyTo items look s.1))) (0, .nils) (by (repeat' (first | exact wk_nil | refine wk_cons rfl ?_))) ⟨Nat.zero_le _, hS, acc_nil⟩ ?_)
        clear hS hS1
        rintro ⟨i, out⟩ S ⟨hi, hS, hacc⟩
        simp only at hi hS hacc
        have hS1 : 1 < S.length := (List.getElem?_eq_some_iff.1 hS).1
        refine tc_seq (tc_ops ?_)
        refine tl_opo (o_lss rfl rfl) rfl rfl rfl rfl ?_; refine tl_nil ?_
        refine tc_seq (tc_cond rfl (fun h => tc_skip ?_) (fun h => tc_exit ?_))
        · have hi' : i < items.length := by simpa using h
          clear h
          have hrl := readyTo_len items look i
          have hqr : (encR (items.map toR))[i]? = some (toR items[i]).row := by simp [encR, hi']
          refine tc_seq (tc_block (tc_seq (tc_ops ?_)))
          refine tl_opo (o_move rfl) rfl rfl rfl rfl ?_
          refine tl_opo (o_iaddr rfl rfl hqr rfl) rfl rfl rfl rfl ?_
          refine tl_opo (o_loadr rfl (Nat.le_of_ble_eq_true rfl) rfl) rfl rfl rfl rfl ?_
          refine tl_opn o_alloc rfl rfl rfl rfl ?_
          rw [set_snoc]
          refine tl_opo (o_move rfl) rfl rfl rfl rfl ?_
          refine tl_opo (o_store rfl rfl get_snoc rfl rfl rfl rfl (Nat.le_of_ble_eq_true rfl) rfl) rfl rfl rfl rfl ?_
          rw [set_snoc]
          refine tl_nil ?_
          generalize hT : S ++ [_] = T
          have hTX : T[S.length]? = some (some ⟨4, [(toR items[i]).row]⟩) := by rw [← hT]; exact get_snoc
          have hTL : T[1]? = some (some ⟨1, [[L]]⟩) := by rw [← hT]; exact get_app hS
          have hTa : Acc 2 1 T out (encI (readyTo items look i)) := by rw [← hT]; exact hacc.snoc _
          have hTf := hacc.fresh (Nat.le_refl _)
          have hTf1 : ∀ off len full, out ≠ .view 1 off len full := by
            intro off len full he
            rcases hacc with ⟨h1, _⟩ | ⟨_, b, hb2, h3, _⟩
            · rw [h1] at he; cases he
            · rw [h3] at he; cases he; omega
          have hT1 : 1 < T.length := (List.getElem?_eq_some_iff.1 hTL).1
          generalize hnx : S.length = nx at hTX hTf
          have hnx1 : 1 < nx := by omega
          clear hT hacc hS hS1
          have hat : (toR items[i]).at_ = items[i].at_ := rfl
          refine tc_cut (σ := AVal) (fun v => [(1, .int .u64 look), (5, .ptr 1 0 0), (6, .imm (encR (items.map toR))), (17, v), (18, .int .u64 (leastTo items i)), (19, .int .i64 (i : Int)), (20, .ptr nx 0 0), (181, .imm (encR (items.map toR))), (182, .int .i64 (encR (items.map toR)).length), (183, .int .i64 i)])
            (fun v S' => S'[1]? = some (some ⟨1, [[L]]⟩) ∧ S'[nx]? = some (some ⟨4, [(toR items[i]).row]⟩) ∧ Acc 2 1 S' v (encI (readyTo items look (i + 1)))) ?_ ?_
          · rw [readyTo_succ hi']
            refine tc_seq (tc_ops ?_)
            refine tl_opo (o_faddr rfl) rfl rfl rfl rfl ?_
            refine tl_opo (o_load rfl hTX rfl (Nat.le_of_ble_eq_true rfl) rfl) rfl rfl rfl rfl ?_
            refine tl_opo (o_move rfl) rfl rfl rfl rfl ?_
            by_cases hle : items[i].at_ ≤ look
            · refine tl_opo (o_leq' rfl rfl (t := true) (by rw [hat]; simpa using hle)) rfl rfl rfl rfl ?_
              refine tl_nil ?_
              refine tc_cond rfl (fun _ => ?_) (fun h => nomatch h)
              refine tc_ops ?_
              refine tl_opo (o_move rfl) rfl rfl rfl rfl ?_; refine tl_opo (o_move rfl) rfl rfl rfl rfl ?_; refine tl_opo (o_buildSlice rfl rfl) rfl rfl rfl rfl ?_
              refine tl_acc2 rfl rfl hTa (new := encI [(i : Int)]) rfl (by simp [encI]) rfl (by simp; omega) (by omega) rfl rfl ?_
              intro v' S' hacc' hlen hold
              refine tl_opo (o_move rfl) rfl rfl rfl rfl ?_; refine tl_nil ?_
              rw [if_pos hle]
              refine ⟨v', by (repeat' (first | exact wk_nil | refine wk_cons rfl ?_)), ?_, ?_, ?_⟩
              · rw [hold 1 hT1 hTf1]; exact hTL
              · rw [hold nx (List.getElem?_eq_some_iff.1 hTX).1 hTf]; exact hTX
              · simpa [encI] using hacc'
            · refine tl_opo (o_leq' rfl rfl (t := false) (by rw [hat]; simpa using hle)) rfl rfl rfl rfl ?_
              refine tl_nil ?_
              refine tc_cond rfl (fun h => nomatch h) (fun _ => tc_skip ?_)
              rw [if_neg hle, List.append_nil]
              exact ⟨out, by (repeat' (first | exact wk_nil | refine wk_cons rfl ?_)), hTL, hTX, hTa⟩
          · rintro v S2 ⟨hL2, hX2, ha2⟩
            have hl18 := leastTo_succ hi'
            refine tc_seq (tc_ops ?_)
            refine tl_opo (o_move rfl) rfl rfl rfl rfl ?_
            by_cases h0 : i = 0
            · refine tl_opo (o_eql' rfl rfl (t := true) (by simp [h0])) rfl rfl rfl rfl ?_
              refine tl_opo (o_move rfl) rfl rfl rfl rfl ?_; refine tl_off0 rfl rfl rfl ?_; refine tl_off0 rfl rfl rfl ?_; refine tl_off0 rfl rfl rfl ?_; refine tl_off0 rfl rfl rfl ?_; refine tl_opo (o_pick rfl rfl rfl) rfl rfl rfl rfl ?_; refine tl_nil ?_
              rw [if_pos (.inl h0)] at hl18
              refine tc_cond rfl (fun _ => ?_) (fun h => nomatch h)
              refine tc_ops ?_
              refine tl_opo (o_faddr rfl) rfl rfl rfl rfl ?_
              refine tl_opo (o_load rfl hX2 rfl (Nat.le_of_ble_eq_true rfl) rfl) rfl rfl rfl rfl ?_
              refine tl_opo (o_move rfl) rfl rfl rfl rfl ?_; refine tl_nil ?_
              refine tc_ops ?_
              refine tl_opo (o_add rfl rfl (c := ((i + 1 : Nat) : Int)) (by simp) (by omega) (by omega)) rfl rfl rfl rfl ?_
              refine tl_opo (o_move rfl) rfl rfl rfl rfl ?_; refine tl_nil ?_
              exact ⟨(i + 1, v), by simp only; omega, by simp only; rw [hl18]; (repeat' (first | exact wk_nil | refine wk_cons rfl ?_)), by simp only; omega, hL2, ha2⟩
            · refine tl_opo (o_eql' rfl rfl (t := false) (by simpa using h0)) rfl rfl rfl rfl ?_
              refine tl_opo (o_move rfl) rfl rfl rfl rfl ?_; refine tl_opo (o_faddr rfl) rfl rfl rfl rfl ?_
              refine tl_opo (o_load rfl hX2 rfl (Nat.le_of_ble_eq_true rfl) rfl) rfl rfl rfl rfl ?_
              refine tl_opo (o_move rfl) rfl rfl rfl rfl ?_
              by_cases hlt : items[i].at_ < leastTo items i
              · refine tl_opo (o_lss' rfl rfl (t := true) (by rw [hat]; simpa using hlt)) rfl rfl rfl rfl ?_
                refine tl_opo (o_pick rfl rfl rfl) rfl rfl rfl rfl ?_; refine tl_nil ?_
                rw [if_pos (.inr hlt)] at hl18
                refine tc_cond rfl (fun _ => ?_) (fun h => nomatch h)
                refine tc_ops ?_
                refine tl_opo (o_faddr rfl) rfl rfl rfl rfl ?_
                refine tl_opo (o_load rfl hX2 rfl (Nat.le_of_ble_eq_true rfl) rfl) rfl rfl rfl rfl ?_
                refine tl_opo (o_move rfl) rfl rfl rfl rfl ?_; refine tl_nil ?_
                refine tc_ops ?_
                refine tl_opo (o_add rfl rfl (c := ((i + 1 : Nat) : Int)) (by simp) (by omega) (by omega)) rfl rfl rfl rfl ?_
                refine tl_opo (o_move rfl) rfl rfl rfl rfl ?_; refine tl_nil ?_
                exact ⟨(i + 1, v), by simp only; omega, by simp only; rw [hl18]; (repeat' (first | exact wk_nil | refine wk_cons rfl ?_)), by simp only; omega, hL2, ha2⟩
              · refine tl_opo (o_lss' rfl rfl (t := false) (by rw [hat]; simpa using hlt)) rfl rfl rfl rfl ?_
                refine tl_opo (o_pick rfl rfl rfl) rfl rfl rfl rfl ?_; refine tl_nil ?_
                rw [if_neg (by omega)] at hl18
                refine tc_cond rfl (fun h => nomatch h) (fun _ => tc_skip ?_)
                refine tc_ops ?_
                refine tl_opo (o_add rfl rfl (c := ((i + 1 : Nat) : Int)) (by simp) (by omega) (by omega)) rfl rfl rfl rfl ?_
                refine tl_opo (o_move rfl) rfl rfl rfl rfl ?_; refine tl_nil ?_
                exact ⟨(i + 1, v), by simp only; omega, by simp only; rw [hl18]; (repeat' (first | exact wk_nil | refine wk_cons rfl ?_)), by simp only; omega, hL2, ha2⟩
        · have hi2 : items.length ≤ i := by simpa using h
          have : i = items.length := by omega
          subst this
          exact ⟨out, by (repeat' (first | exact wk_nil | refine wk_cons rfl ?_)), hS, hacc⟩
    · rintro v S2 ⟨hS2, hacc2⟩
      have hfzL : ∀ {S : Store} n, ∃ ids, (Eng.frz (n + 2) (.agg [L])).run S = some (.agg [.imm (enc items)], ids) := fun n => hL.frz1 (enc_closed _) n
      refine tc_seq (tc_ops ?_)
      refine tl_opo (o_load rfl hS2 rfl (Nat.le_of_ble_eq_true rfl) rfl) rfl rfl rfl rfl ?_
      have hnx := next_ok items (by omega)
      rw [next_has] at hnx
      obtain ⟨c, hc⟩ : ∃ c, decide (0 < items.length) = c := ⟨_, rfl⟩
      rw [hc] at hnx
      refine tl_call' (as := [.agg [L]]) (as' := [.agg [.imm (enc items)]]) rfl (frzL_cons (fun n => hfzL (n + 1)) frzL_nil)
        hnx (by simp [norefL, AVal.noref, hnr]) rfl rfl rfl rfl ?_
      refine tl_opo (o_move rfl) rfl rfl rfl rfl ?_; refine tl_opo (o_extract rfl rfl) rfl rfl rfl rfl ?_; refine tl_opo (o_extract rfl rfl) rfl rfl rfl rfl ?_; refine tl_opo (o_move rfl) rfl rfl rfl rfl ?_; refine tl_opo (o_move rfl) rfl rfl rfl rfl ?_; refine tl_nil ?_
      refine tc_seq (tc_ops ?_)
      refine tl_opo (o_load rfl (get_app hS2) rfl (Nat.le_of_ble_eq_true rfl) rfl) rfl rfl rfl rfl ?_
      refine tl_opo (o_move rfl) rfl rfl rfl rfl ?_
      refine tl_call' (as := [.agg [L], .int .u64 look]) (as' := [.agg [.imm (enc items)], .int .u64 look]) rfl (frzL_cons (fun n => hfzL (n + 1)) (frzL_cons (fun n => ⟨_, frz_ok rfl⟩) frzL_nil))
        (ready_ok items look (by omega)) (by simp [norefL, AVal.noref, hnr]) rfl rfl rfl rfl ?_
      refine tl_opo (o_move rfl) rfl rfl rfl rfl ?_
      have heq := equalI_ok (ready items look) (ready items look) (by have := readyTo_len items look items.length; unfold ready; omega)
      refine tl_call' (as := [.imm (encI (ready items look)), v]) (as' := [.imm (encI (ready items look)), .imm (encI (ready items look))]) rfl (frzL_cons (fun n => ⟨_, frz_ok (by simp [AVal.closed])⟩) (frzL_cons (fun n => ((hacc2.snoc _).snoc _).frz (encI_closed _)) frzL_nil))
        heq (by simp [AVal.flat]) rfl rfl rfl rfl ?_
      rw [decide_eq_true rfl]
      refine tl_opo (o_move rfl) rfl rfl rfl rfl ?_; refine tl_opo (o_move rfl) rfl rfl rfl rfl ?_; refine tl_opo (o_move rfl) rfl rfl rfl rfl ?_
      refine tl_opo (o_eql' rfl rfl (t := true) (by simp [leastTo])) rfl rfl rfl rfl ?_
      refine tl_opo (o_pick rfl rfl rfl) rfl rfl rfl rfl ?_; refine tl_opo (o_move rfl) rfl rfl rfl rfl ?_; refine tl_opo (o_move rfl) rfl rfl rfl rfl ?_; refine tl_opo (o_move rfl) rfl rfl rfl rfl ?_
      rcases hq with ⟨rfl, h⟩ | rfl
      · have hc2 : c = false := by rw [← hc]; have : items = [] := by simpa [encR] using h
                                   simp [this]
        subst hc2
        refine tl_opo (o_len_nils rfl) rfl rfl rfl rfl ?_; refine tl_opo (o_gtr rfl rfl) rfl rfl rfl rfl ?_
        refine tl_opo (o_eqB rfl rfl) rfl rfl rfl rfl ?_
        refine tl_opo (o_pick rfl rfl rfl) rfl rfl rfl rfl ?_; refine tl_opo (o_move rfl) rfl rfl rfl rfl ?_; refine tl_nil ?_
        exact tc_ret (retd rfl ⟨_, frz_ok rfl⟩)
      · refine tl_opo (o_len_imm rfl) rfl rfl rfl rfl ?_
        refine tl_opo (o_gtr' rfl rfl (t := c) (by rw [← hc]; simp)) rfl rfl rfl rfl ?_
        refine tl_opo (o_eqB rfl rfl) rfl rfl rfl rfl ?_
        refine tl_opo (o_pick rfl rfl rfl) rfl rfl rfl rfl ?_; refine tl_opo (o_move rfl) rfl rfl rfl rfl ?_; refine tl_nil ?_
        clear hc
        cases c
        · exact tc_ret (retd rfl ⟨_, frz_ok rfl⟩)
        · exact tc_ret (retd rfl ⟨_, frz_ok rfl⟩)

end Go.Eng.Line

