/- A part of the engine: a machine over abstract values, and the proof that the program does what it does; no condition. -/
import Derived.Test.YtiomljbaolopiaaLA
set_option linter.unusedSectionVars false
set_option linter.unusedVariables false
set_option linter.unusedSimpArgs false
set_option linter.unnecessarySimpa false
/- LineHonest: what the machine answers. -/
namespace Go.Eng.Line
open Go Go.Eng
attribute [local irreducible] OpR TL TD TC CallR

structure Act where
  do_ : Int
  x : It
  i : Int
  now : Int

def Act.row (a : Act) : List AVal := .int .u8 a.do_ :: .int .u32 a.x.fh :: .int .u16 a.x.fp :: .int .u32 a.x.th :: .int .u16 a.x.tp :: .str a.x.tx :: .int .u64 a.x.at_ :: .int .i64 a.i :: .int .u64 a.now :: []
def encA (l : List Act) : List (List AVal) := l.map Act.row
@[simp] theorem encA_len (l : List Act) : (encA l).length = l.length := by simp [encA]
theorem encA_get {l : List Act} {i : Nat} (h : i < l.length) : (encA l)[i]? = some l[i].row := by simp [encA, h]

def Sub (l sents : List It) : Prop := ∀ x ∈ l, x.at' 0 ∈ sents

theorem send_len {l : List It} {x : It} (h : l.length ≤ 256) : (send l x).length ≤ 256 := by unfold send; simp; omega
theorem sub_send {l sents : List It} {x : It} (h : Sub l sents) (hx : x.at' 0 ∈ sents) : Sub (send l x) sents := by
  intro y hy
  have := List.mem_of_mem_drop hy
  rcases List.mem_append.1 this with h1 | h1
  · exact h y h1
  · rw [List.mem_singleton.1 h1]; exact hx
theorem Sub.mono {l sents : List It} (h : Sub l sents) (y : It) : Sub l (sents ++ [y]) := fun x hx => List.mem_append_left _ (h x hx)
theorem lose_len {l : List It} {i : Int} (h : l.length ≤ 256) : (lose l i).length ≤ 256 := by
  unfold lose; split
  · exact Nat.le_trans (List.length_eraseIdx_le _ _) h
  · exact h
theorem sub_lose {l sents : List It} {i : Int} (h : Sub l sents) : Sub (lose l i) sents := by
  unfold lose; split
  · exact fun x hx => h x (List.mem_of_mem_eraseIdx hx)
  · exact h
theorem delay_len {l : List It} {i b : Int} : (delay l i b).length = l.length := by
  unfold delay; split <;> simp
theorem sub_delay {l sents : List It} {i b : Int} (h : Sub l sents) : Sub (delay l i b) sents := by
  unfold delay; split
  · intro x hx
    obtain ⟨j, hj⟩ := List.getElem?_of_mem hx
    rw [List.getElem?_modify] at hj
    cases hl : l[j]? with
    | none => rw [hl] at hj; simp at hj
    | some y =>
      rw [hl] at hj
      have hy := h y (List.mem_of_getElem? hl)
      split at hj
      · simp at hj; subst hj; exact hy
      · simp at hj; subst hj; exact hy
  · exact h
theorem dbl_len {l : List It} {i b : Int} (h : l.length ≤ 256) : (dbl l i b).length ≤ 256 := by
  unfold dbl; split
  · split
    · exact send_len h
    · exact h
  · exact h
theorem sub_dbl {l sents : List It} {i b : Int} (h : Sub l sents) : Sub (dbl l i b) sents := by
  unfold dbl; split
  · rename_i x hx
    split
    · exact sub_send h (h x (List.mem_of_getElem? hx))
    · exact h
  · exact h
theorem take_spec {l sents : List It} {i now : Int} (h : Sub l sents) (hl : l.length ≤ 256) : Sub (take l i now).1 sents ∧ (take l i now).1.length ≤ 256 ∧ ((take l i now).2.2 = 0 → (take l i now).2.1.at' 0 ∈ sents ∧ (take l i now).2.1.at_ ≤ now) ∧ ((take l i now).2.2 = 0 ∨ (take l i now).2.2 = 10 ∨ (take l i now).2.2 = 21) := by
  unfold take
  split
  · rename_i x hx
    split
    · split
      · exact ⟨h, hl, by simp, by simp⟩
      · rename_i hn
        exact ⟨sub_lose h, lose_len hl, fun _ => ⟨h x (List.mem_of_getElem? hx), by simp only; omega⟩, by simp⟩
    · exact ⟨h, hl, by simp, by simp⟩
  · exact ⟨h, hl, by simp, by simp⟩

theorem _root_.Go.Eng.Acc.ext {k sz : Nat} {S S' : Store} {v : AVal} {rows : List (List AVal)} (h : Acc k sz S v rows) (hs : ∀ j, j < S.length → S'[j]? = S[j]?) : Acc k sz S' v rows := by
  rcases h with h | ⟨h1, b, h2, h3, h4⟩
  · exact .inl h
  · exact .inr ⟨h1, b, h2, h3, by rw [hs b (List.getElem?_eq_some_iff.1 h4).1]; exact h4⟩

structure HSt where
  i : Nat
  now : Int
  sv : AVal
  L : AVal
  items : List It
  sents : List It

def HOk (bound : Nat) (s : HSt) (S : Store) : Prop :=
  Var s.L (enc s.items) ∧ S[1]? = some (some ⟨1, [[s.L]]⟩) ∧ Acc 2 6 S s.sv (enc s.sents) ∧ s.items.length ≤ 256 ∧ Sub s.items s.sents ∧ s.sents.length ≤ bound

theorem honest_ok (script : List Act) (hsc : ∀ a ∈ script, 0 ≤ a.do_ ∧ a.do_ < 256) : CallR AP 6 [.imm (encA script)] (.bool true) := by
  refine callR_of (af := c6) rfl rfl ?_
  refine tc_seq (tc_ops ?_)
  refine tl_opo (o_move rfl) rfl rfl rfl rfl ?_; refine tl_nil ?_
  refine tc_seq (tc_seq (tc_ops ?_))
  refine tl_call' (as := []) (as' := []) rfl frzL_nil awake_ok rfl rfl rfl rfl rfl ?_
  refine tl_opo (o_un rfl rfl) rfl rfl rfl rfl ?_; refine tl_nil ?_
  refine tc_cond rfl (fun h => nomatch h) (fun _ => tc_skip ?_)
  refine tc_seq (tc_seq (tc_ops ?_))
  refine tl_opo (o_move rfl) rfl rfl rfl rfl ?_; refine tl_opo (o_len_imm rfl) rfl rfl rfl rfl ?_
  by_cases hn : script.length ≤ 300
  case neg =>
    refine tl_opo (o_gtr' rfl rfl (t := true) (by simp; omega)) rfl rfl rfl rfl ?_
    refine tl_nil ?_
    refine tc_cond rfl (fun _ => ?_) (fun h => nomatch h)
    refine tc_seq (tc_ops ?_)
    refine tl_opo (o_move rfl) rfl rfl rfl rfl ?_; refine tl_nil ?_
    exact tc_ret (retd rfl ⟨_, frz_ok rfl⟩)
  refine tl_opo (o_gtr' rfl rfl (t := false) (by simp; omega)) rfl rfl rfl rfl ?_
  refine tl_nil ?_
  refine tc_cond rfl (fun h => nomatch h) (fun _ => tc_skip ?_)
  refine tc_seq (tc_ops ?_)
  refine tl_opn o_alloc rfl rfl rfl rfl ?_; refine tl_nil ?_
  dsimp only [putM, initM, acells, effS, List.nil_append, List.cons_append, List.length_nil, List.length_cons, List.set_cons_zero, List.set_cons_succ, List.set_nil, List.append_nil, Nat.zero_add, Nat.add_zero, Nat.reduceAdd, List.replicate, nslots]
  refine tc_seq (tc_ops ?_)
  refine tl_opo (o_move rfl) rfl rfl rfl rfl ?_; refine tl_nil ?_
  refine tc_seq (tc_ops ?_)
  refine tl_opo (o_move rfl) rfl rfl rfl rfl ?_; refine tl_nil ?_
  refine tc_seq (tc_seq (tc_ops ?_))
  refine tl_opo (o_move rfl) rfl rfl rfl rfl ?_; refine tl_opo (o_len_imm rfl) rfl rfl rfl rfl ?_; refine tl_opo (o_move rfl) rfl rfl rfl rfl ?_; refine tl_nil ?_
  refine tc_block (loop_st (σ := HSt) (fun s => script.length - s.i) (fun s => [(3, .ptr 1 0 0), (4, s.sv), (5, .int .u64 s.now), (18, .imm (encA script)), (19, .int .i64 (encA script).length), (20, .int .i64 s.i)])
    (fun s S => s.i ≤ script.length ∧ HOk s.i s S) ⟨0, 0, .nils, .nils, [], []⟩ (by (repeat' (first | exact wk_nil | refine wk_cons rfl ?_))) ⟨Nat.zero_le _, .inl ⟨rfl, rfl⟩, rfl, acc_nil, by simp, fun x hx => by simp at hx, by simp⟩ ?_)
  rintro ⟨i, now, sv, L, items, sents⟩ S ⟨hi, hL, hS, hacc, hil, hsub, hsl⟩
  simp only at hi hL hS hacc hil hsub hsl
  have hS1 : 1 < S.length := (List.getElem?_eq_some_iff.1 hS).1
  refine tc_seq (tc_ops ?_)
  refine tl_opo (o_lss rfl rfl) rfl rfl rfl rfl ?_; refine tl_nil ?_
  refine tc_seq (tc_cond rfl (fun h => tc_skip ?_) (fun h => tc_exit ?_))
  · have hi' : i < script.length := by simpa using h
    clear h
    obtain ⟨hd0, hd1⟩ := hsc _ (List.getElem_mem hi')
    generalize hact : script[i] = act at hd0 hd1
    have hrow : (encA script)[i]? = some act.row := by rw [encA_get hi', hact]
    refine tc_seq (tc_block (tc_seq (tc_ops ?_)))
    refine tl_opo (o_iaddr rfl rfl hrow rfl) rfl rfl rfl rfl ?_
    refine tl_opo (o_loadr rfl (Nat.le_of_ble_eq_true rfl) rfl) rfl rfl rfl rfl ?_
    refine tl_opn o_alloc rfl rfl rfl rfl ?_
    rw [set_snoc]
    refine tl_opo (o_store rfl rfl get_snoc rfl rfl rfl rfl (Nat.le_of_ble_eq_true rfl) rfl) rfl rfl rfl rfl ?_
    rw [set_snoc]
    refine tl_nil ?_
    generalize hS' : S ++ [_] = S'
    have hgA : S'[S.length]? = some (some ⟨9, [act.row]⟩) := by rw [← hS']; exact get_snoc
    have hgL : S'[1]? = some (some ⟨1, [[L]]⟩) := by rw [← hS']; exact get_app hS
    have hgS : Acc 2 6 S' sv (enc sents) := by rw [← hS']; exact hacc.snoc _
    have hlS : 1 < S'.length := (List.getElem?_eq_some_iff.1 hgL).1
    refine tc_seq (tc_ops ?_)
    refine tl_opo (o_move rfl) rfl rfl rfl rfl ?_; refine tl_opo (o_faddr rfl) rfl rfl rfl rfl ?_
    refine tl_opo (o_load rfl hgA rfl (Nat.le_of_ble_eq_true rfl) rfl) rfl rfl rfl rfl ?_
    refine tl_opo (o_bin rfl rfl (v := .int .u64 (act.now.tmod 1099511627776)) (by simp [abin, isShift, aintop])) rfl rfl rfl rfl ?_
    obtain ⟨now', hnow⟩ : ∃ n : Int, n = if act.now.tmod 1099511627776 > now then act.now.tmod 1099511627776 else now := ⟨_, rfl⟩
    refine tl_opo (o_maxI rfl (v := .int .u64 now') (by simp only [aext, foldI, if_true, Option.map_some, hnow])) rfl rfl rfl rfl ?_
    refine tl_opo (o_move rfl) rfl rfl rfl rfl ?_; refine tl_nil ?_
    have hnr : norefL [AVal.agg [L]] = true := by
      rcases hL with ⟨rfl, _⟩ | rfl
      · rfl
      · simp [norefL, AVal.noref]
    refine tc_cut (σ := HSt) (fun s => [(3, .ptr 1 0 0), (4, s.sv), (5, .int .u64 s.now), (18, .imm (encA script)), (19, .int .i64 (encA script).length), (20, .int .i64 i)]) (fun s S => s.i = i ∧ HOk (i + 1) s S) ?_ ?_
    · refine tc_seq (tc_ops ?_)
      refine tl_opo (o_faddr rfl) rfl rfl rfl rfl ?_
      refine tl_opo (o_load rfl hgA rfl (Nat.le_of_ble_eq_true rfl) rfl) rfl rfl rfl rfl ?_
      refine tl_opo (o_bin rfl rfl (v := .int .u8 (act.do_.tmod 6)) (by simp [abin, isShift, aintop])) rfl rfl rfl rfl ?_
      refine tl_nil ?_
      refine tc_block (tc_seq (tc_ops ?_))
      by_cases h2 : act.do_.tmod 6 = 2
      · refine tl_opo (o_eql' rfl rfl (t := true) (by simpa using h2)) rfl rfl rfl rfl ?_
        refine tl_opo (o_move rfl) rfl rfl rfl rfl ?_; refine tl_nil ?_
        refine tc_cond rfl (fun _ => ?_) (fun h => nomatch h)
        obtain ⟨ts1, ts2, ts3, ts4⟩ := take_spec (i := act.i) (now := now') hsub hil
        have hcall := take_ok items act.i now' (by omega)
        generalize take items act.i now' = tk at ts1 ts2 ts3 ts4 hcall
        obtain ⟨nl, y, e⟩ := tk
        simp only at ts1 ts2 ts3 ts4 hcall
        refine tc_seq (tc_ops ?_)
        refine tl_opo (o_load rfl hgL rfl (Nat.le_of_ble_eq_true rfl) rfl) rfl rfl rfl rfl ?_
        refine tl_opo (o_faddr rfl) rfl rfl rfl rfl ?_
        refine tl_opo (o_load rfl hgA rfl (Nat.le_of_ble_eq_true rfl) rfl) rfl rfl rfl rfl ?_
        refine tl_opo (o_move rfl) rfl rfl rfl rfl ?_
        refine tl_call' (as := [.agg [L], .int .i64 act.i, .int .u64 now']) (as' := [.agg [.imm (enc items)], .int .i64 act.i, .int .u64 now']) rfl (frzL_cons (fun n => hL.frz1 (enc_closed _) (n + 1)) (frzL_cons (fun n => ⟨_, frz_ok rfl⟩) (frzL_cons (fun n => ⟨_, frz_ok rfl⟩) frzL_nil)))
          hcall ?_ rfl rfl rfl rfl ?_
        · simp [norefL, AVal.noref] at hnr ⊢
          simp [hnr]
        refine tl_opo (o_move rfl) rfl rfl rfl rfl ?_; refine tl_opo (o_extract rfl rfl) rfl rfl rfl rfl ?_; refine tl_opo (o_extract rfl rfl) rfl rfl rfl rfl ?_; refine tl_opo (o_extract rfl rfl) rfl rfl rfl rfl ?_
        generalize hSx : S' ++ [none] = Sx
        have hAx : Sx[S.length]? = some (some ⟨9, [act.row]⟩) := by rw [← hSx]; exact get_app hgA
        have hLx : Sx[1]? = some (some ⟨1, [[L]]⟩) := by rw [← hSx]; exact get_app hgL
        have haccx : Acc 2 6 Sx sv (enc sents) := by rw [← hSx]; exact hgS.snoc _
        have hlx : 1 < Sx.length := (List.getElem?_eq_some_iff.1 hLx).1
        refine tl_opn o_alloc rfl rfl rfl rfl ?_
        rw [set_snoc]
        refine tl_opn o_alloc rfl rfl rfl rfl ?_
        rw [set_snoc]
        refine tl_opo (o_store rfl rfl (get_app get_snoc) rfl rfl rfl rfl (Nat.le_of_ble_eq_true rfl) rfl) rfl rfl rfl rfl ?_
        generalize hSy : (Sx ++ [_] ++ [_]).set _ _ = Sy
        have hy8 : Sy[Sx.length]? = some (some ⟨1, [[.imm (enc nl)]]⟩) := by rw [← hSy, set_get, if_pos ⟨rfl, by simp⟩]; rfl
        have hy9 : Sy[(Sx ++ [some (⟨1, [[.nils]]⟩ : ABlock)]).length]? = some (some ⟨6, [zeroI]⟩) := by
          rw [← hSy, set_get, if_neg (by simp)]; exact get_snoc
        have hyo : ∀ j, j < Sx.length → Sy[j]? = Sx[j]? := fun j hj => by
          rw [← hSy, set_get, if_neg (by omega), List.getElem?_append_left (by simp; omega), List.getElem?_append_left hj]
        have hlen9 : (Sx ++ [some (⟨1, [[.nils]]⟩ : ABlock)]).length = Sx.length + 1 := by simp
        refine tl_opo (o_store rfl rfl hy9 rfl rfl rfl rfl (Nat.le_of_ble_eq_true rfl) rfl) rfl rfl rfl rfl ?_
        generalize hSz : Sy.set _ _ = Sz
        have hz8 : Sz[Sx.length]? = some (some ⟨1, [[.imm (enc nl)]]⟩) := by rw [← hSz, set_get, if_neg (by simp)]; exact hy8
        have hz9 : Sz[(Sx ++ [some (⟨1, [[.nils]]⟩ : ABlock)]).length]? = some (some ⟨6, [y.row]⟩) := by
          rw [← hSz, set_get, if_pos ⟨rfl, (List.getElem?_eq_some_iff.1 hy9).1⟩]; rfl
        have hzo : ∀ j, j < Sx.length → Sz[j]? = Sx[j]? := fun j hj => by
          rw [← hSz, set_get, if_neg (by simp; omega), hyo j hj]
        have hzL : Sz[1]? = some (some ⟨1, [[L]]⟩) := by rw [hzo 1 hlx]; exact hLx
        have hzacc : Acc 2 6 Sz sv (enc sents) := haccx.ext hzo
        have hlz : 1 < Sz.length := (List.getElem?_eq_some_iff.1 hzL).1
        clear hSz hSy hyo hy8 hy9
        refine tl_opo (o_move rfl) rfl rfl rfl rfl ?_; refine tl_nil ?_
        refine tc_seq (tc_seq (tc_ops ?_))
        refine tl_opo (o_move rfl) rfl rfl rfl rfl ?_
        by_cases he : e = 0
        · subst he
          obtain ⟨hys, hyn⟩ := ts3 rfl
          refine tl_opo (o_eql' rfl rfl (t := true) rfl) rfl rfl rfl rfl ?_
          refine tl_nil ?_
          refine tc_cond rfl (fun _ => ?_) (fun h => nomatch h)
          refine tc_seq (tc_ops ?_)
          refine tl_opo (o_load rfl hz9 rfl (Nat.le_of_ble_eq_true rfl) rfl) rfl rfl rfl rfl ?_
          refine tl_opn o_alloc rfl rfl rfl rfl ?_
          rw [set_snoc]
          refine tl_opo (o_store rfl rfl get_snoc rfl rfl rfl rfl (Nat.le_of_ble_eq_true rfl) rfl) rfl rfl rfl rfl ?_
          rw [set_snoc]
          refine tl_nil ?_
          refine tc_seq (tc_ops ?_)
          refine tl_opo (o_faddr rfl) rfl rfl rfl rfl ?_
          refine tl_opo (o_store rfl rfl get_snoc rfl rfl rfl rfl (Nat.le_of_ble_eq_true rfl) rfl) rfl rfl rfl rfl ?_
          rw [set_snoc]
          refine tl_nil ?_
          refine tc_seq (tc_ops ?_)
          refine tl_opo (o_move rfl) rfl rfl rfl rfl ?_
          refine tl_opo (o_load rfl get_snoc rfl (Nat.le_of_ble_eq_true rfl) rfl) rfl rfl rfl rfl ?_
          refine tl_call' (as := [sv, .agg (y.at' 0).row]) (as' := [.imm (enc sents), .agg (y.at' 0).row]) rfl (frzL_cons (fun n => (hzacc.snoc _).frz (n := n + 2) (enc_closed _)) (frzL_cons (fun n => ⟨_, frz_ok rfl⟩) frzL_nil))
            (contains_ok sents (y.at' 0) (by omega) hys) (by simp [AVal.flat]) rfl rfl rfl rfl ?_
          refine tl_opo (o_un rfl rfl) rfl rfl rfl rfl ?_; refine tl_opo (o_move rfl) rfl rfl rfl rfl ?_; refine tl_opo (o_faddr rfl) rfl rfl rfl rfl ?_
          refine tl_opo (o_load rfl (get_app (get_app hz9)) rfl (Nat.le_of_ble_eq_true rfl) rfl) rfl rfl rfl rfl ?_
          refine tl_opo (o_move rfl) rfl rfl rfl rfl ?_
          refine tl_opo (o_gtr' rfl rfl (t := false) (by simpa using hyn)) rfl rfl rfl rfl ?_
          refine tl_opo (o_pick rfl rfl rfl) rfl rfl rfl rfl ?_; refine tl_nil ?_
          refine tc_cond rfl (fun h => nomatch h) (fun _ => tc_skip ?_)
          refine tc_ops ?_
          refine tl_opo (o_load rfl (get_app (get_app hz8)) rfl (Nat.le_of_ble_eq_true rfl) rfl) rfl rfl rfl rfl ?_
          refine tl_opo (o_store rfl rfl (get_app (get_app hzL)) rfl rfl rfl rfl (Nat.le_of_ble_eq_true rfl) rfl) rfl rfl rfl rfl ?_
          refine tl_nil ?_
          refine ⟨⟨i, now', sv, .imm (enc nl), nl, sents⟩, by (repeat' (first | exact wk_nil | refine wk_cons rfl ?_)), rfl, .inr rfl, ?_, (((hzacc.snoc _).snoc _).set (by omega) _), ts2, ts1, by simp only; omega⟩
          rw [set_get, if_pos ⟨rfl, by simp⟩]; rfl
        · refine tl_opo (o_eql' rfl rfl (t := false) (by simpa using he)) rfl rfl rfl rfl ?_
          refine tl_nil ?_
          refine tc_cond rfl (fun h => nomatch h) (fun _ => tc_skip ?_)
          refine tc_ops ?_
          refine tl_opo (o_load rfl hz8 rfl (Nat.le_of_ble_eq_true rfl) rfl) rfl rfl rfl rfl ?_
          refine tl_opo (o_store rfl rfl hzL rfl rfl rfl rfl (Nat.le_of_ble_eq_true rfl) rfl) rfl rfl rfl rfl ?_
          refine tl_nil ?_
          refine ⟨⟨i, now', sv, .imm (enc nl), nl, sents⟩, by (repeat' (first | exact wk_nil | refine wk_cons rfl ?_)), rfl, .inr rfl, ?_, (hzacc.set (by omega) _), ts2, ts1, by simp only; omega⟩
          rw [set_get, if_pos ⟨rfl, by omega⟩]; rfl
      refine tl_opo (o_eql' rfl rfl (t := false) (by simpa using h2)) rfl rfl rfl rfl ?_
      refine tl_opo (o_move rfl) rfl rfl rfl rfl ?_; refine tl_nil ?_
      refine tc_cond rfl (fun h => nomatch h) (fun _ => ?_)
      refine tc_seq (tc_ops ?_)
      by_cases h3 : act.do_.tmod 6 = 3
      · refine tl_opo (o_eql' rfl rfl (t := true) (by simpa using h3)) rfl rfl rfl rfl ?_
        refine tl_opo (o_move rfl) rfl rfl rfl rfl ?_; refine tl_nil ?_
        refine tc_cond rfl (fun _ => ?_) (fun h => nomatch h)
        refine tc_ops ?_
        refine tl_opo (o_load rfl hgL rfl (Nat.le_of_ble_eq_true rfl) rfl) rfl rfl rfl rfl ?_
        refine tl_opo (o_faddr rfl) rfl rfl rfl rfl ?_
        refine tl_opo (o_load rfl hgA rfl (Nat.le_of_ble_eq_true rfl) rfl) rfl rfl rfl rfl ?_
        refine tl_call' (as := [.agg [L], .int .i64 act.i]) (as' := [.agg [.imm (enc items)], .int .i64 act.i]) rfl (frzL_cons (fun n => hL.frz1 (enc_closed _) (n + 1)) (frzL_cons (fun n => ⟨_, frz_ok rfl⟩) frzL_nil))
          (lose_ok items act.i (by omega)) ?_ rfl rfl rfl rfl ?_
        · simp [norefL, AVal.noref] at hnr ⊢
          simp [hnr]
        refine tl_opo (o_move rfl) rfl rfl rfl rfl ?_; refine tl_opo (o_extract rfl rfl) rfl rfl rfl rfl ?_; refine tl_opo (o_extract rfl rfl) rfl rfl rfl rfl ?_
        refine tl_opo (o_store rfl rfl (get_app hgL) rfl rfl rfl rfl (Nat.le_of_ble_eq_true rfl) rfl) rfl rfl rfl rfl ?_
        refine tl_nil ?_
        refine ⟨⟨i, now', sv, .imm (enc (Line.lose items act.i)), Line.lose items act.i, sents⟩, by (repeat' (first | exact wk_nil | refine wk_cons rfl ?_)), rfl, .inr rfl, ?_, ((hgS.snoc _).set (by omega) _), lose_len hil, sub_lose hsub, by simp only; omega⟩
        rw [set_get, if_pos ⟨rfl, by simp; omega⟩]; rfl
      refine tl_opo (o_eql' rfl rfl (t := false) (by simpa using h3)) rfl rfl rfl rfl ?_
      refine tl_opo (o_move rfl) rfl rfl rfl rfl ?_; refine tl_nil ?_
      refine tc_cond rfl (fun h => nomatch h) (fun _ => ?_)
      refine tc_seq (tc_ops ?_)
      by_cases h4 : act.do_.tmod 6 = 4
      · refine tl_opo (o_eql' rfl rfl (t := true) (by simpa using h4)) rfl rfl rfl rfl ?_
        refine tl_opo (o_move rfl) rfl rfl rfl rfl ?_; refine tl_nil ?_
        refine tc_cond rfl (fun _ => ?_) (fun h => nomatch h)
        refine tc_ops ?_
        refine tl_opo (o_load rfl hgL rfl (Nat.le_of_ble_eq_true rfl) rfl) rfl rfl rfl rfl ?_
        refine tl_opo (o_faddr rfl) rfl rfl rfl rfl ?_
        refine tl_opo (o_load rfl hgA rfl (Nat.le_of_ble_eq_true rfl) rfl) rfl rfl rfl rfl ?_
        refine tl_opo (o_faddr rfl) rfl rfl rfl rfl ?_
        refine tl_opo (o_load rfl hgA rfl (Nat.le_of_ble_eq_true rfl) rfl) rfl rfl rfl rfl ?_
        refine tl_call' (as := [.agg [L], .int .i64 act.i, .int .u64 act.now]) (as' := [.agg [.imm (enc items)], .int .i64 act.i, .int .u64 act.now]) rfl (frzL_cons (fun n => hL.frz1 (enc_closed _) (n + 1)) (frzL_cons (fun n => ⟨_, frz_ok rfl⟩) (frzL_cons (fun n => ⟨_, frz_ok rfl⟩) frzL_nil)))
          (double_ok items act.i act.now (by omega)) ?_ rfl rfl rfl rfl ?_
        · simp [norefL, AVal.noref] at hnr ⊢
          simp [hnr]
        refine tl_opo (o_move rfl) rfl rfl rfl rfl ?_; refine tl_opo (o_extract rfl rfl) rfl rfl rfl rfl ?_; refine tl_opo (o_extract rfl rfl) rfl rfl rfl rfl ?_
        refine tl_opo (o_store rfl rfl (get_app hgL) rfl rfl rfl rfl (Nat.le_of_ble_eq_true rfl) rfl) rfl rfl rfl rfl ?_
        refine tl_nil ?_
        refine ⟨⟨i, now', sv, .imm (enc (dbl items act.i act.now)), dbl items act.i act.now, sents⟩, by (repeat' (first | exact wk_nil | refine wk_cons rfl ?_)), rfl, .inr rfl, ?_, ((hgS.snoc _).set (by omega) _), dbl_len hil, sub_dbl hsub, by simp only; omega⟩
        rw [set_get, if_pos ⟨rfl, by simp; omega⟩]; rfl
      refine tl_opo (o_eql' rfl rfl (t := false) (by simpa using h4)) rfl rfl rfl rfl ?_
      refine tl_opo (o_move rfl) rfl rfl rfl rfl ?_; refine tl_nil ?_
      refine tc_cond rfl (fun h => nomatch h) (fun _ => ?_)
      refine tc_seq (tc_ops ?_)
      by_cases h5 : act.do_.tmod 6 = 5
      · refine tl_opo (o_eql' rfl rfl (t := true) (by simpa using h5)) rfl rfl rfl rfl ?_
        refine tl_opo (o_move rfl) rfl rfl rfl rfl ?_; refine tl_nil ?_
        refine tc_cond rfl (fun _ => ?_) (fun h => nomatch h)
        refine tc_ops ?_
        refine tl_opo (o_load rfl hgL rfl (Nat.le_of_ble_eq_true rfl) rfl) rfl rfl rfl rfl ?_
        refine tl_opo (o_faddr rfl) rfl rfl rfl rfl ?_
        refine tl_opo (o_load rfl hgA rfl (Nat.le_of_ble_eq_true rfl) rfl) rfl rfl rfl rfl ?_
        refine tl_opo (o_faddr rfl) rfl rfl rfl rfl ?_
        refine tl_opo (o_load rfl hgA rfl (Nat.le_of_ble_eq_true rfl) rfl) rfl rfl rfl rfl ?_
        refine tl_call' (as := [.agg [L], .int .i64 act.i, .int .u64 act.now]) (as' := [.agg [.imm (enc items)], .int .i64 act.i, .int .u64 act.now]) rfl (frzL_cons (fun n => hL.frz1 (enc_closed _) (n + 1)) (frzL_cons (fun n => ⟨_, frz_ok rfl⟩) (frzL_cons (fun n => ⟨_, frz_ok rfl⟩) frzL_nil)))
          (delay_ok items act.i act.now (by omega)) ?_ rfl rfl rfl rfl ?_
        · simp [norefL, AVal.noref] at hnr ⊢
          simp [hnr]
        refine tl_opo (o_move rfl) rfl rfl rfl rfl ?_; refine tl_opo (o_extract rfl rfl) rfl rfl rfl rfl ?_; refine tl_opo (o_extract rfl rfl) rfl rfl rfl rfl ?_
        refine tl_opo (o_store rfl rfl (get_app hgL) rfl rfl rfl rfl (Nat.le_of_ble_eq_true rfl) rfl) rfl rfl rfl rfl ?_
        refine tl_nil ?_
        refine ⟨⟨i, now', sv, .imm (enc (Line.delay items act.i act.now)), Line.delay items act.i act.now, sents⟩, by (repeat' (first | exact wk_nil | refine wk_cons rfl ?_)), rfl, .inr rfl, ?_, ((hgS.snoc _).set (by omega) _), by simp only; rw [delay_len]; exact hil, sub_delay hsub, by simp only; omega⟩
        rw [set_get, if_pos ⟨rfl, by simp; omega⟩]; rfl
      refine tl_opo (o_eql' rfl rfl (t := false) (by simpa using h5)) rfl rfl rfl rfl ?_
      refine tl_opo (o_move rfl) rfl rfl rfl rfl ?_; refine tl_nil ?_
      refine tc_cond rfl (fun h => nomatch h) (fun _ => ?_)
      refine tc_seq (tc_ops ?_)
      refine tl_opo (o_load rfl hgL rfl (Nat.le_of_ble_eq_true rfl) rfl) rfl rfl rfl rfl ?_
      refine tl_opo (o_faddr rfl) rfl rfl rfl rfl ?_
      refine tl_opo (o_load rfl hgA rfl (Nat.le_of_ble_eq_true rfl) rfl) rfl rfl rfl rfl ?_
      refine tl_call' (as := [.agg [L], .agg act.x.row]) (as' := [.agg [.imm (enc items)], .agg act.x.row]) rfl (frzL_cons (fun n => hL.frz1 (enc_closed _) (n + 1)) (frzL_cons (fun n => ⟨_, frz_ok rfl⟩) frzL_nil))
        (send_ok items act.x (by omega)) ?_ rfl rfl rfl rfl ?_
      · simp [norefL, AVal.noref, It.row] at hnr ⊢
        simp [hnr]
      refine tl_opo (o_store rfl rfl (get_app hgL) rfl rfl rfl rfl (Nat.le_of_ble_eq_true rfl) rfl) rfl rfl rfl rfl ?_
      refine tl_nil ?_
      generalize hS3 : (S' ++ [none]).set 1 _ = S3
      have hA3 : S3[S.length]? = some (some ⟨9, [act.row]⟩) := by rw [← hS3, set_get, if_neg (by omega)]; exact get_app hgA
      have hL3 : S3[1]? = some (some ⟨1, [[.imm (enc (send items act.x))]]⟩) := by rw [← hS3, set_get, if_pos ⟨rfl, by simp; omega⟩]; rfl
      have hacc3 : Acc 2 6 S3 sv (enc sents) := by rw [← hS3]; exact (hgS.snoc _).set (by omega) _
      have hl3 : 1 < S3.length := (List.getElem?_eq_some_iff.1 hL3).1
      refine tc_seq (tc_ops ?_)
      refine tl_opo (o_faddr rfl) rfl rfl rfl rfl ?_
      refine tl_opo (o_load rfl hA3 rfl (Nat.le_of_ble_eq_true rfl) rfl) rfl rfl rfl rfl ?_
      refine tl_opn o_alloc rfl rfl rfl rfl ?_
      rw [set_snoc]
      refine tl_opo (o_store rfl rfl get_snoc rfl rfl rfl rfl (Nat.le_of_ble_eq_true rfl) rfl) rfl rfl rfl rfl ?_
      rw [set_snoc]
      refine tl_nil ?_
      refine tc_seq (tc_ops ?_)
      refine tl_opo (o_faddr rfl) rfl rfl rfl rfl ?_
      refine tl_opo (o_store rfl rfl get_snoc rfl rfl rfl rfl (Nat.le_of_ble_eq_true rfl) rfl) rfl rfl rfl rfl ?_
      rw [set_snoc]
      refine tl_nil ?_
      refine tc_ops ?_
      refine tl_opo (o_move rfl) rfl rfl rfl rfl ?_
      refine tl_opo (o_load rfl get_snoc rfl (Nat.le_of_ble_eq_true rfl) rfl) rfl rfl rfl rfl ?_
      refine tl_opo (o_buildSlice rfl rfl) rfl rfl rfl rfl ?_
      refine tl_acc rfl rfl (hacc3.snoc _) (new := enc [act.x.at' 0]) rfl (by simp [enc]) rfl (by simp; omega) (by simp; omega) rfl rfl ?_
      intro v' S4 hacc4 hlen4 hold
      refine tl_opo (o_move rfl) rfl rfl rfl rfl ?_; refine tl_nil ?_
      refine ⟨⟨i, now', v', .imm (enc (send items act.x)), send items act.x, sents ++ [act.x.at' 0]⟩, by (repeat' (first | exact wk_nil | refine wk_cons rfl ?_)), rfl, ?_, ?_, ?_, ?_, ?_, ?_⟩
      · simp only; exact .inr rfl
      · rw [hold 1 (by omega)]; exact get_app hL3
      · simpa [enc] using hacc4
      · simp only; exact send_len hil
      · simp only; exact sub_send (hsub.mono _) (by simp)
      · simp; omega
    · rintro ⟨i', now2, sv2, L2, items2, sents2⟩ S2 ⟨hi2, hL2, hT, hacc2, hil2, hsub2, hsl2⟩
      simp only at hi2 hL2 hT hacc2 hil2 hsub2 hsl2
      subst hi2
      have hnr2 : norefL [AVal.agg [L2]] = true := by
        rcases hL2 with ⟨rfl, _⟩ | rfl
        · rfl
        · simp [norefL, AVal.noref]
      refine tc_seq (tc_ops ?_)
      refine tl_opo (o_load rfl hT rfl (Nat.le_of_ble_eq_true rfl) rfl) rfl rfl rfl rfl ?_
      refine tl_call' (as := [.agg [L2]]) (as' := [.agg [.imm (enc items2)]]) rfl (frzL_cons (fun n => hL2.frz1 (enc_closed _) (n + 1)) frzL_nil)
        (len_ok items2) (by rw [hnr2]; rfl) rfl rfl rfl rfl ?_
      refine tl_opo (o_gtr' rfl rfl (t := false) (by simp; omega)) rfl rfl rfl rfl ?_
      refine tl_nil ?_
      refine tc_cond rfl (fun h => nomatch h) (fun _ => tc_skip ?_)
      refine tc_ops ?_
      refine tl_opo (o_add rfl rfl (c := ((i' + 1 : Nat) : Int)) (by simp) (by omega) (by omega)) rfl rfl rfl rfl ?_
      refine tl_opo (o_move rfl) rfl rfl rfl rfl ?_; refine tl_nil ?_
      exact ⟨⟨i' + 1, now2, sv2, L2, items2, sents2⟩, by simp only; omega, by (repeat' (first | exact wk_nil | refine wk_cons rfl ?_)), by simp only; omega, hL2, get_app hT, hacc2.snoc _, hil2, hsub2, by simp only; omega⟩
  · refine tc_seq (tc_ops ?_)
    refine tl_opo (o_move rfl) rfl rfl rfl rfl ?_; refine tl_nil ?_
    exact tc_ret (retd rfl ⟨_, frz_ok rfl⟩)

end Go.Eng.Line

