/- A part of the engine: a machine over abstract values, and the proof that the program does what it does; no condition. -/
import Derived.Test.YtiomljbaolopiaaLA
set_option linter.unusedSectionVars false
set_option linter.unusedVariables false
set_option linter.unusedSimpArgs false
set_option linter.unnecessarySimpa false
/- LineDelays: what the machine answers. -/
namespace Go.Eng.Line
open Go Go.Eng
attribute [local irreducible] OpR TL TD TC CallR

def encS (l : List (List UInt8)) : List (List AVal) := l.map fun s => [.str s]
def encH (l : List Int) : List (List AVal) := l.map fun n => [.int .u16 n]
@[simp] theorem encS_len (l : List (List UInt8)) : (encS l).length = l.length := by simp [encS]
@[simp] theorem encH_len (l : List Int) : (encH l).length = l.length := by simp [encH]
theorem encS_get {l : List (List UInt8)} {i : Nat} (h : i < l.length) : (encS l)[i]? = some [.str l[i]] := by simp [encS, h]
theorem encH_get {l : List Int} {i : Nat} (h : i < l.length) : (encH l)[i]? = some [.int .u16 l[i]] := by simp [encH, h]

/-- the i-th bit, as the program asks for it -/
def bitv (lose : Int) (i : Nat) : Int := IntKind.u64.wrap (BitVec.ofInt IntKind.u64.bits (lose.fdiv (2 ^ min i IntKind.u64.bits)) &&& BitVec.ofInt IntKind.u64.bits 1).toNat

theorem bitv_cases (lose : Int) (i : Nat) : bitv lose i = 0 ∨ bitv lose i = 1 := by
  unfold bitv
  have h : (BitVec.ofInt IntKind.u64.bits (lose.fdiv (2 ^ min i IntKind.u64.bits)) &&& BitVec.ofInt IntKind.u64.bits 1).toNat < 2 := by
    rw [BitVec.toNat_and]
    have : (BitVec.ofInt IntKind.u64.bits 1).toNat = 1 := by decide
    rw [this]
    exact Nat.lt_of_le_of_lt (Nat.and_le_right) (by omega)
  rw [wrapu64 (by omega) (by omega)]
  omega

section
variable {AP : AProg} {m : FM} {slot : Nat} {S : Store}
theorem o_bit {x y : AOpd} {a : Int} {i : Nat} {k : IntKind} (hx : lo m x = some (.int .u64 a)) (hy : lo m y = some (.int k (i : Int))) : OpR AP m slot S (.bin .shr x y) (.int .u64 (a.fdiv (2 ^ min i IntKind.u64.bits))) S ([], []) :=
  o_bin hx hy (by simp only [abin, isShift, if_true, ashift]; rw [if_neg (by omega)]; simp)
theorem o_and {x y : AOpd} {a b : Int} (hx : lo m x = some (.int .u64 a)) (hy : lo m y = some (.int .u64 b)) : OpR AP m slot S (.bin .and x y) (.int .u64 (IntKind.u64.wrap (BitVec.ofInt IntKind.u64.bits a &&& BitVec.ofInt IntKind.u64.bits b).toNat)) S ([], []) :=
  o_bin hx hy (by simp only [abin, isShift, Bool.false_eq_true, if_false, if_true, aintop, abits, Option.map_some])
end

def mkD (texts : List (List UInt8)) (at_ : List Int) (i : Nat) : It := ⟨0, 0, 0, 0, texts.getD i [], at_.getD i 0⟩
def lineD (texts : List (List UInt8)) (at_ : List Int) (i : Nat) : List It := (List.range i).map (mkD texts at_)
theorem lineD_len (texts : List (List UInt8)) (at_ : List Int) (i : Nat) : (lineD texts at_ i).length = i := by simp [lineD]
theorem lineD_succ (texts : List (List UInt8)) (at_ : List Int) (i : Nat) : lineD texts at_ (i + 1) = lineD texts at_ i ++ [mkD texts at_ i] := by simp [lineD, List.range_succ]

theorem send_small {l : List It} {x : It} (h : l.length < 256) : send l x = l ++ [x] := by
  unfold send; rw [show l.length + 1 - 256 = 0 by omega]; rfl

theorem addU_zero {b : Int} (h0 : 0 ≤ b) (h1 : b < 65536) : addU 0 b = b := by
  unfold addU
  rw [wrapu64 (by omega) (by omega), if_neg (by omega), wrapu64 (by omega) (by omega)]
  omega

/-- the items that stay, of the first i -/
def wantTo (l : List It) (lose : Int) (i : Nat) : List It := ((l.take i).zipIdx.filter fun p => bitv lose p.2 == 0).map (·.1)
theorem wantTo_zero (l : List It) (lose : Int) : wantTo l lose 0 = [] := rfl
theorem wantTo_succ {l : List It} {lose : Int} {i : Nat} (h : i < l.length) : wantTo l lose (i + 1) = wantTo l lose i ++ (if bitv lose i = 0 then [l[i]] else []) := by
  unfold wantTo
  rw [List.take_add_one, List.getElem?_eq_getElem h, List.zipIdx_append, List.filter_append, List.map_append]
  congr 1
  simp only [Option.toList_some, List.zipIdx_cons, List.zipIdx_nil, List.length_take, Nat.min_eq_left (Nat.le_of_lt h), Nat.zero_add]
  by_cases hn : bitv lose i = 0 <;> simp [hn]

/-- the line, when those from the i-th on that are to be lost are lost -/
def kept (l : List It) (lose : Int) (i : Nat) : List It := l.take i ++ ((l.zipIdx.drop i).filter fun p => bitv lose p.2 == 0).map (·.1)
theorem kept_all (l : List It) (lose : Int) : kept l lose l.length = l := by
  unfold kept; rw [List.drop_of_length_le (by simp)]; simp
theorem kept_zero (l : List It) (lose : Int) : kept l lose 0 = wantTo l lose l.length := by
  unfold kept wantTo; simp
theorem kept_step {l : List It} {lose : Int} {i : Nat} (h : i < l.length) : kept l lose i = if bitv lose i = 0 then kept l lose (i + 1) else (kept l lose (i + 1)).eraseIdx i := by
  have hd : l.zipIdx.drop i = (l[i], i) :: l.zipIdx.drop (i + 1) := by
    rw [List.drop_eq_getElem_cons (by simpa using h)]; simp
  unfold kept
  rw [hd, List.take_add_one, List.getElem?_eq_getElem h]
  by_cases hb : bitv lose i = 0
  · rw [if_pos hb]
    simp only [List.filter_cons, hb, beq_self_eq_true, if_true, List.map_cons, Option.toList_some, List.append_assoc, List.singleton_append]
  · simp only [hb, if_false, List.filter_cons, beq_iff_eq, Option.toList_some, List.append_assoc]
    rw [List.eraseIdx_append_of_length_le (by simp; omega)]
    simp [Nat.min_eq_left (Nat.le_of_lt h)]
theorem kept_len (l : List It) (lose : Int) (i : Nat) : (kept l lose i).length ≤ l.length := by
  unfold kept
  rw [List.length_append, List.length_map]
  have := List.length_filter_le (fun p : It × Nat => bitv lose p.2 == 0) (l.zipIdx.drop i)
  simp at this ⊢
  omega
theorem kept_ge {l : List It} {lose : Int} {i : Nat} (h : i ≤ l.length) : i ≤ (kept l lose i).length := by
  unfold kept; rw [List.length_append]; simp; omega

theorem readyTo_all {l : List It} {now : Int} (h : ∀ x ∈ l, x.at_ ≤ now) : ∀ i, i ≤ l.length → (readyTo l now i).length = i
  | 0, _ => rfl
  | i + 1, hi => by
    rw [readyTo_succ (by omega), if_pos (h _ (List.getElem_mem _)), List.length_append, readyTo_all h i (by omega)]; rfl

theorem modify_last {α : Type} (f : α → α) : ∀ (l : List α) (x : α), (l ++ [x]).modify l.length f = l ++ [f x]
  | [], _ => rfl
  | y :: l, x => by simp [List.modify_succ_cons, modify_last f l x]

theorem delays_ok (texts : List (List UInt8)) (at_ : List Int) (lose : Int) (hat : ∀ n ∈ at_, 0 ≤ n ∧ n < 65536) : CallR AP 4 [.imm (encS texts), .imm (encH at_), .int .u64 lose] (.bool true) := by
  refine callR_of (af := c4) rfl rfl ?_
  refine tc_seq (tc_ops ?_)
  refine tl_opo (o_move rfl) rfl rfl rfl rfl ?_; refine tl_nil ?_
  refine tc_seq (tc_seq (tc_ops ?_))
  refine tl_call' (as := []) (as' := []) rfl frzL_nil awake_ok rfl rfl rfl rfl rfl ?_
  refine tl_opo (o_un rfl rfl) rfl rfl rfl rfl ?_; refine tl_nil ?_
  refine tc_cond rfl (fun h => nomatch h) (fun _ => tc_skip ?_)
  refine tc_seq (tc_seq (tc_ops ?_))
  refine tl_opo (o_move rfl) rfl rfl rfl rfl ?_; refine tl_opo (o_len_imm rfl) rfl rfl rfl rfl ?_
  by_cases hn : texts.length ≤ 60
  case neg =>
    refine tl_opo (o_gtr' rfl rfl (t := true) (by simp; omega)) rfl rfl rfl rfl ?_
    refine tl_opo (o_move rfl) rfl rfl rfl rfl ?_; refine tl_off0 rfl rfl rfl ?_; refine tl_off0 rfl rfl rfl ?_; refine tl_off0 rfl rfl rfl ?_; refine tl_opo (o_pick rfl rfl rfl) rfl rfl rfl rfl ?_; refine tl_nil ?_
    refine tc_cond rfl (fun _ => ?_) (fun h => nomatch h)
    refine tc_seq (tc_ops ?_)
    refine tl_opo (o_move rfl) rfl rfl rfl rfl ?_; refine tl_nil ?_
    exact tc_ret (retd rfl ⟨_, frz_ok rfl⟩)
  refine tl_opo (o_gtr' rfl rfl (t := false) (by simp; omega)) rfl rfl rfl rfl ?_
  refine tl_opo (o_move rfl) rfl rfl rfl rfl ?_; refine tl_opo (o_move rfl) rfl rfl rfl rfl ?_; refine tl_opo (o_len_imm rfl) rfl rfl rfl rfl ?_
  by_cases hm : at_.length ≤ 60
  case neg =>
    refine tl_opo (o_gtr' rfl rfl (t := true) (by simp; omega)) rfl rfl rfl rfl ?_
    refine tl_opo (o_pick rfl rfl rfl) rfl rfl rfl rfl ?_; refine tl_nil ?_
    refine tc_cond rfl (fun _ => ?_) (fun h => nomatch h)
    refine tc_seq (tc_ops ?_)
    refine tl_opo (o_move rfl) rfl rfl rfl rfl ?_; refine tl_nil ?_
    exact tc_ret (retd rfl ⟨_, frz_ok rfl⟩)
  refine tl_opo (o_gtr' rfl rfl (t := false) (by simp; omega)) rfl rfl rfl rfl ?_
  refine tl_opo (o_pick rfl rfl rfl) rfl rfl rfl rfl ?_; refine tl_nil ?_
  refine tc_cond rfl (fun h => nomatch h) (fun _ => tc_skip ?_)
  refine tc_seq (tc_ops ?_)
  refine tl_opn o_alloc rfl rfl rfl rfl ?_; refine tl_nil ?_
  dsimp only [putM, initM, acells, effS, List.nil_append, List.cons_append, List.length_nil, List.length_cons, List.set_cons_zero, List.set_cons_succ, List.set_nil, List.append_nil, Nat.zero_add, Nat.add_zero, Nat.reduceAdd, List.replicate, nslots]
  refine tc_seq (tc_seq (tc_ops ?_))
  refine tl_opo (o_move rfl) rfl rfl rfl rfl ?_; refine tl_opo (o_len_imm rfl) rfl rfl rfl rfl ?_; refine tl_opo (o_move rfl) rfl rfl rfl rfl ?_; refine tl_nil ?_
  refine tc_block (loop_st (fun i => texts.length - i) (fun i : Nat => [(0, .imm (encS texts)), (1, .imm (encH at_)), (2, .int .u64 lose), (7, .ptr 1 0 0), (24, .imm (encS texts)), (25, .int .i64 (encS texts).length), (26, .int .i64 i)])
    (fun i S => i ≤ texts.length ∧ ∃ L, Var L (enc (lineD texts at_ i)) ∧ S[1]? = some (some ⟨1, [[L]]⟩)) 0 (by (repeat' (first | exact wk_nil | refine wk_cons rfl ?_))) ⟨by omega, .nils, .inl ⟨rfl, rfl⟩, rfl⟩ ?_)
  · rintro i S ⟨hi, L, hL, hS⟩
    have hS1 : 1 < S.length := (List.getElem?_eq_some_iff.1 hS).1
    refine tc_seq (tc_ops ?_)
    refine tl_opo (o_lss rfl rfl) rfl rfl rfl rfl ?_; refine tl_nil ?_
    refine tc_seq (tc_cond rfl (fun h => tc_skip ?_) (fun h => tc_exit ?_))
    · have hi' : i < texts.length := by simpa using h
      refine tc_seq (tc_block (tc_seq (tc_ops ?_)))
      refine tl_opo (o_move rfl) rfl rfl rfl rfl ?_
      refine tl_opo (o_iaddr rfl rfl (encS_get hi') rfl) rfl rfl rfl rfl ?_
      refine tl_opo (o_loadr rfl (Nat.le_of_ble_eq_true rfl) rfl) rfl rfl rfl rfl ?_; refine tl_opo (o_move rfl) rfl rfl rfl rfl ?_; refine tl_opo (o_move rfl) rfl rfl rfl rfl ?_; refine tl_nil ?_
      refine tc_seq (tc_ops ?_)
      refine tl_opo (o_load rfl hS rfl (Nat.le_of_ble_eq_true rfl) rfl) rfl rfl rfl rfl ?_
      refine tl_opo (o_move rfl) rfl rfl rfl rfl ?_; refine tl_opo (o_build rfl rfl) rfl rfl rfl rfl ?_
      refine tl_call' (as := [.agg [L], .agg (⟨0, 0, 0, 0, texts[i], 0⟩ : It).row]) (as' := [.agg [.imm (enc (lineD texts at_ i))], .agg (⟨0, 0, 0, 0, texts[i], 0⟩ : It).row]) rfl (frzL_cons (fun n => hL.frz1 (enc_closed _) (n + 1)) (frzL_cons (fun n => ⟨_, frz_ok rfl⟩) frzL_nil))
        (send_ok (lineD texts at_ i) ⟨0, 0, 0, 0, texts[i], 0⟩ (by rw [lineD_len]; omega)) ?_ rfl rfl rfl rfl ?_
      · rcases hL with ⟨rfl, _⟩ | rfl
        · rfl
        · simp [norefL, AVal.noref, It.row]
      rw [send_small (by rw [lineD_len]; omega)]
      refine tl_opo (o_store rfl rfl (get_app hS) rfl rfl rfl rfl (Nat.le_of_ble_eq_true rfl) rfl) rfl rfl rfl rfl ?_
      refine tl_nil ?_
      generalize hS' : (S ++ [none]).set 1 _ = S'
      have hS2 : S'[1]? = some (some ⟨1, [[.imm (enc (lineD texts at_ i ++ [⟨0, 0, 0, 0, texts[i], 0⟩]))]]⟩) := by
        rw [← hS', set_get, if_pos ⟨rfl, by simp; omega⟩]; rfl
      clear hS' hS hS1
      have hS3 : 1 < S'.length := (List.getElem?_eq_some_iff.1 hS2).1
      refine tc_seq (tc_ops ?_)
      refine tl_opo (o_move rfl) rfl rfl rfl rfl ?_; refine tl_opo (o_move rfl) rfl rfl rfl rfl ?_; refine tl_opo (o_len_imm rfl) rfl rfl rfl rfl ?_
      by_cases hb : i < at_.length
      · refine tl_opo (o_lss' rfl rfl (t := true) (by simpa using hb)) rfl rfl rfl rfl ?_
        refine tl_nil ?_
        refine tc_cond rfl (fun _ => ?_) (fun h => nomatch h)
        refine tc_drawR [none] rfl ?_
        refine td_op rfl rfl (o_load rfl (get_app hS2) rfl (Nat.le_of_ble_eq_true rfl) rfl) ?_
        refine td_op rfl rfl (o_move rfl) ?_; refine td_op rfl rfl (o_move rfl) ?_; refine td_op rfl rfl (o_move rfl) ?_
        refine td_op rfl rfl (o_iaddr rfl rfl (encH_get hb) rfl) ?_
        refine td_op rfl rfl (o_loadr rfl (Nat.le_of_ble_eq_true rfl) rfl) ?_
        refine td_op rfl rfl (o_conv rfl) ?_
        refine td_op rfl rfl (o_callc (as := [.agg [.imm (enc (lineD texts at_ i ++ [⟨0, 0, 0, 0, texts[i], 0⟩]))], .int .i64 i, .int .u64 (IntKind.u64.wrap at_[i])]) rfl (by simp [closedL, AVal.closed]) rfl rfl (delay_ok _ i _ (by simp [lineD_len]; omega)) (by simp [norefL, AVal.noref])) ?_
        refine td_op rfl rfl (o_move rfl) ?_; refine td_op rfl rfl (o_extract rfl rfl) ?_; refine td_op rfl rfl (o_extract rfl rfl) ?_
        refine td_op rfl rfl (o_store rfl rfl (get_app hS2) rfl rfl rfl rfl (Nat.le_of_ble_eq_true rfl) rfl) ?_
        refine td_nil ?_
        refine ⟨rfl, ?_⟩
        refine tc_ops ?_
        refine tl_opo (o_add rfl rfl (c := ((i + 1 : Nat) : Int)) (by simp) (by omega) (by omega)) rfl rfl rfl rfl ?_
        refine tl_opo (o_move rfl) rfl rfl rfl rfl ?_; refine tl_nil ?_
        refine ⟨i + 1, by omega, by (repeat' (first | exact wk_nil | refine wk_cons rfl ?_)), by omega, _, .inr rfl, ?_⟩
        rw [set_get, if_pos ⟨rfl, by simp; omega⟩]
        obtain ⟨b0, b1⟩ := hat _ (List.getElem_mem hb)
        have e : delay (lineD texts at_ i ++ [⟨0, 0, 0, 0, texts[i], 0⟩]) i (IntKind.u64.wrap at_[i]) = lineD texts at_ (i + 1) := by
          rw [lineD_succ, delay, if_pos (by unfold has; simp [lineD_len]; omega), Int.toNat_natCast, wrapu64 b0 (by omega)]
          have : (lineD texts at_ i).length = i := lineD_len _ _ _
          have hmod := modify_last (fun x => It.at' x (addU x.at_ at_[i])) (lineD texts at_ i) ⟨0, 0, 0, 0, texts[i], 0⟩
          rw [this] at hmod
          rw [hmod]
          simp [It.at', mkD, addU_zero b0 b1, hi', hb]
        rw [e]; rfl
      · refine tl_opo (o_lss' rfl rfl (t := false) (by simpa using hb)) rfl rfl rfl rfl ?_
        refine tl_nil ?_
        refine tc_cond rfl (fun h => nomatch h) (fun _ => tc_skip ?_)
        refine tc_ops ?_
        refine tl_opo (o_add rfl rfl (c := ((i + 1 : Nat) : Int)) (by simp) (by omega) (by omega)) rfl rfl rfl rfl ?_
        refine tl_opo (o_move rfl) rfl rfl rfl rfl ?_; refine tl_nil ?_
        refine ⟨i + 1, by omega, by (repeat' (first | exact wk_nil | refine wk_cons rfl ?_)), by omega, _, .inr rfl, ?_⟩
        rw [hS2, lineD_succ]
        have : mkD texts at_ i = ⟨0, 0, 0, 0, texts[i], 0⟩ := by simp [mkD, hi', hb]
        rw [this]
    · have hi' : texts.length ≤ i := by simpa using h
      have : i = texts.length := by omega
      subst this
      clear h
      have hlen : (lineD texts at_ texts.length).length = texts.length := lineD_len _ _ _
      have hget : ∀ k, (hk : k < (lineD texts at_ texts.length).length) → (lineD texts at_ texts.length)[k] = mkD texts at_ k := by intro k hk; simp [lineD]
      have hall : ∀ x ∈ lineD texts at_ texts.length, x.at_ ≤ 65535 := by
        intro x hx
        simp only [lineD, List.mem_map] at hx
        obtain ⟨j, _, rfl⟩ := hx
        simp only [mkD, List.getD_eq_getElem?_getD]
        cases hj : at_[j]? with
        | none => simp
        | some v => have := hat v (List.mem_of_getElem? hj); simp; omega
      generalize lineD texts at_ texts.length = items at *
      refine tc_seq (tc_ops ?_)
      refine tl_opo (o_move rfl) rfl rfl rfl rfl ?_; refine tl_nil ?_
      refine tc_seq (tc_seq (tc_ops ?_))
      refine tl_opo (o_load rfl hS rfl (Nat.le_of_ble_eq_true rfl) rfl) rfl rfl rfl rfl ?_
      refine tl_call' (as := [.agg [L]]) (as' := [.agg [.imm (enc items)]]) rfl (frzL_cons (fun n => hL.frz1 (enc_closed _) (n + 1)) frzL_nil)
        (all_ok items (by omega)) ?_ rfl rfl rfl rfl ?_
      · rcases hL with ⟨rfl, _⟩ | rfl
        · rfl
        · simp [norefL, AVal.noref]
      refine tl_opo (o_len_imm rfl) rfl rfl rfl rfl ?_; refine tl_opo (o_move rfl) rfl rfl rfl rfl ?_; refine tl_nil ?_
      dsimp only [putM, initM, acells, effS, List.nil_append, List.cons_append, List.length_nil, List.length_cons, List.set_cons_zero, List.set_cons_succ, List.set_nil, List.append_nil, Nat.zero_add, Nat.add_zero, Nat.reduceAdd, List.replicate, nslots]
      refine tc_block (loop_st (σ := Nat × AVal) (fun s => items.length - s.1) (fun s => [(0, .imm (encS texts)), (1, .imm (encH at_)), (2, .int .u64 lose), (7, .ptr 1 0 0), (10, s.2), (52, .imm (enc items)), (53, .int .i64 (enc items).length), (54, .int .i64 s.1)])
        (fun s S => s.1 ≤ items.length ∧ S[1]? = some (some ⟨1, [[L]]⟩) ∧ Acc 2 6 S s.2 (enc (wantTo items lose s.1))) (0, .nils) (by (repeat' (first | exact wk_nil | refine wk_cons rfl ?_))) ⟨by omega, get_app hS, acc_nil⟩ ?_)
      clear hS hS1
      rintro ⟨k, out⟩ S ⟨hk, hS, hacc⟩
      simp only at hk hS hacc
      have hS1 : 1 < S.length := (List.getElem?_eq_some_iff.1 hS).1
      refine tc_seq (tc_ops ?_)
      refine tl_opo (o_lss rfl rfl) rfl rfl rfl rfl ?_; refine tl_nil ?_
      refine tc_seq (tc_cond rfl (fun h => tc_skip ?_) (fun h => tc_exit ?_))
      · have hk' : k < items.length := by simpa using h
        have hkt : k < texts.length := by omega
        have hx := hget k hk'
        have hwl : (wantTo items lose k).length ≤ k := by
          unfold wantTo
          rw [List.length_map]
          refine Nat.le_trans (List.length_filter_le _ _) ?_
          simp; omega
        refine tc_seq (tc_block (tc_seq (tc_ops ?_)))
        refine tl_opo (o_move rfl) rfl rfl rfl rfl ?_
        refine tl_opo (o_iaddr rfl rfl (enc_get hk') rfl) rfl rfl rfl rfl ?_
        refine tl_opo (o_loadr rfl (Nat.le_of_ble_eq_true rfl) rfl) rfl rfl rfl rfl ?_
        refine tl_opn o_alloc rfl rfl rfl rfl ?_
        rw [set_snoc]
        refine tl_opo (o_move rfl) rfl rfl rfl rfl ?_
        refine tl_opo (o_store rfl rfl get_snoc rfl rfl rfl rfl (Nat.le_of_ble_eq_true rfl) rfl) rfl rfl rfl rfl ?_
        rw [set_snoc]
        refine tl_nil ?_
        by_cases hb : k < at_.length
        · refine tc_seq (tc_seq (tc_drawR [] rfl ?_))
          refine td_op rfl rfl (o_move rfl) ?_; refine td_op rfl rfl (o_move rfl) ?_; refine td_op rfl rfl (o_len_imm rfl) ?_
          refine td_op rfl rfl (o_lss' rfl rfl (t := true) (by simpa using hb)) ?_
          refine td_op rfl rfl (o_move rfl) ?_; refine td_op rfl rfl (o_faddr rfl) ?_
          refine td_op rfl rfl (o_load rfl (get_app get_snoc) rfl (Nat.le_of_ble_eq_true rfl) rfl) ?_
          refine td_op rfl rfl (o_move rfl) ?_; refine td_op rfl rfl (o_move rfl) ?_
          refine td_op rfl rfl (o_iaddr rfl rfl (encH_get hb) rfl) ?_
          refine td_op rfl rfl (o_loadr rfl (Nat.le_of_ble_eq_true rfl) rfl) ?_
          refine td_op rfl rfl (o_conv rfl) ?_
          obtain ⟨b0, b1⟩ := hat _ (List.getElem_mem hb)
          refine td_op rfl rfl (o_neq' rfl rfl (t := false) (by rw [wrapu64 b0 (by omega)]; simp [hx, mkD, hb])) ?_
          refine td_op rfl rfl (o_pick rfl rfl rfl) ?_; refine td_op rfl rfl (o_move rfl) ?_; refine td_op rfl rfl (o_faddr rfl) ?_
          refine td_op rfl rfl (o_load rfl (get_app get_snoc) rfl (Nat.le_of_ble_eq_true rfl) rfl) ?_
          refine td_op rfl rfl (o_move rfl) ?_; refine td_op rfl rfl (o_move rfl) ?_
          refine td_op rfl rfl (o_iaddr rfl rfl (encS_get hkt) rfl) ?_
          refine td_op rfl rfl (o_loadr rfl (Nat.le_of_ble_eq_true rfl) rfl) ?_
          refine td_op rfl rfl (o_neqS' rfl rfl (t := false) (by simp [hx, mkD, hkt])) ?_
          refine td_op rfl rfl (o_pick rfl rfl rfl) ?_; refine td_nil ?_
          refine ⟨rfl, ?_⟩
          refine tc_cond rfl (fun h => nomatch h) (fun _ => tc_skip ?_)
          refine tc_seq (tc_ops ?_)
          refine tl_opo (o_move rfl) rfl rfl rfl rfl ?_; refine tl_opo (o_move rfl) rfl rfl rfl rfl ?_
          refine tl_opo (o_bit rfl rfl) rfl rfl rfl rfl ?_
          refine tl_opo (o_and rfl rfl) rfl rfl rfl rfl ?_
          by_cases hbit : bitv lose k = 0
          · refine tl_opo (o_eql' rfl rfl (t := true) (by simpa [bitv] using hbit)) rfl rfl rfl rfl ?_
            refine tl_nil ?_
            refine tc_cond rfl (fun _ => ?_) (fun h => nomatch h)
            refine tc_ops ?_
            refine tl_opo (o_move rfl) rfl rfl rfl rfl ?_
            refine tl_opo (o_load rfl (get_app get_snoc) rfl (Nat.le_of_ble_eq_true rfl) rfl) rfl rfl rfl rfl ?_
            refine tl_opo (o_buildSlice rfl rfl) rfl rfl rfl rfl ?_
            refine tl_acc rfl rfl ((hacc.snoc _).snoc _) (new := enc [items[k]]) rfl (by simp [enc]) rfl (by simp; omega) (by simp; omega) rfl rfl ?_
            intro v' S' hacc' hlen' hold
            refine tl_opo (o_move rfl) rfl rfl rfl rfl ?_; refine tl_nil ?_
            refine tc_ops ?_
            refine tl_opo (o_add rfl rfl (c := ((k + 1 : Nat) : Int)) (by simp) (by omega) (by omega)) rfl rfl rfl rfl ?_
            refine tl_opo (o_move rfl) rfl rfl rfl rfl ?_; refine tl_nil ?_
            refine ⟨(k + 1, v'), by simp only; omega, by (repeat' (first | exact wk_nil | refine wk_cons rfl ?_)), by simp only; omega, ?_, ?_⟩
            · rw [hold 1 (by omega)]; exact get_app (get_app hS)
            simp only
            rw [wantTo_succ hk', if_pos hbit]
            simpa [enc] using hacc'
          · refine tl_opo (o_eql' rfl rfl (t := false) (by simpa [bitv] using hbit)) rfl rfl rfl rfl ?_
            refine tl_nil ?_
            refine tc_cond rfl (fun h => nomatch h) (fun _ => tc_skip ?_)
            refine tc_ops ?_
            refine tl_opo (o_add rfl rfl (c := ((k + 1 : Nat) : Int)) (by simp) (by omega) (by omega)) rfl rfl rfl rfl ?_
            refine tl_opo (o_move rfl) rfl rfl rfl rfl ?_; refine tl_nil ?_
            refine ⟨(k + 1, out), by simp only; omega, by (repeat' (first | exact wk_nil | refine wk_cons rfl ?_)), by simp only; omega, get_app (get_app hS), ?_⟩
            simp only
            rw [wantTo_succ hk', if_neg hbit, List.append_nil, List.append_nil]
            exact hacc.snoc _
        · refine tc_seq (tc_seq (tc_drawR [] rfl ?_))
          refine td_op rfl rfl (o_move rfl) ?_; refine td_op rfl rfl (o_move rfl) ?_; refine td_op rfl rfl (o_len_imm rfl) ?_
          refine td_op rfl rfl (o_lss' rfl rfl (t := false) (by simpa using hb)) ?_
          refine td_op rfl rfl (o_move rfl) ?_; refine td_off rfl rfl ?_; refine td_off rfl rfl ?_; refine td_off rfl rfl ?_; refine td_off rfl rfl ?_; refine td_off rfl rfl ?_; refine td_off rfl rfl ?_; refine td_off rfl rfl ?_; refine td_off rfl rfl ?_; refine td_op rfl rfl (o_pick rfl rfl rfl) ?_; refine td_op rfl rfl (o_move rfl) ?_; refine td_op rfl rfl (o_faddr rfl) ?_
          refine td_op rfl rfl (o_load rfl (get_app get_snoc) rfl (Nat.le_of_ble_eq_true rfl) rfl) ?_
          refine td_op rfl rfl (o_move rfl) ?_; refine td_op rfl rfl (o_move rfl) ?_
          refine td_op rfl rfl (o_iaddr rfl rfl (encS_get hkt) rfl) ?_
          refine td_op rfl rfl (o_loadr rfl (Nat.le_of_ble_eq_true rfl) rfl) ?_
          refine td_op rfl rfl (o_neqS' rfl rfl (t := false) (by simp [hx, mkD, hkt])) ?_
          refine td_op rfl rfl (o_pick rfl rfl rfl) ?_; refine td_nil ?_
          refine ⟨rfl, ?_⟩
          refine tc_cond rfl (fun h => nomatch h) (fun _ => tc_skip ?_)
          refine tc_seq (tc_ops ?_)
          refine tl_opo (o_move rfl) rfl rfl rfl rfl ?_; refine tl_opo (o_move rfl) rfl rfl rfl rfl ?_
          refine tl_opo (o_bit rfl rfl) rfl rfl rfl rfl ?_
          refine tl_opo (o_and rfl rfl) rfl rfl rfl rfl ?_
          by_cases hbit : bitv lose k = 0
          · refine tl_opo (o_eql' rfl rfl (t := true) (by simpa [bitv] using hbit)) rfl rfl rfl rfl ?_
            refine tl_nil ?_
            refine tc_cond rfl (fun _ => ?_) (fun h => nomatch h)
            refine tc_ops ?_
            refine tl_opo (o_move rfl) rfl rfl rfl rfl ?_
            refine tl_opo (o_load rfl (get_app get_snoc) rfl (Nat.le_of_ble_eq_true rfl) rfl) rfl rfl rfl rfl ?_
            refine tl_opo (o_buildSlice rfl rfl) rfl rfl rfl rfl ?_
            refine tl_acc rfl rfl ((hacc.snoc _).snoc _) (new := enc [items[k]]) rfl (by simp [enc]) rfl (by simp; omega) (by simp; omega) rfl rfl ?_
            intro v' S' hacc' hlen' hold
            refine tl_opo (o_move rfl) rfl rfl rfl rfl ?_; refine tl_nil ?_
            refine tc_ops ?_
            refine tl_opo (o_add rfl rfl (c := ((k + 1 : Nat) : Int)) (by simp) (by omega) (by omega)) rfl rfl rfl rfl ?_
            refine tl_opo (o_move rfl) rfl rfl rfl rfl ?_; refine tl_nil ?_
            refine ⟨(k + 1, v'), by simp only; omega, by (repeat' (first | exact wk_nil | refine wk_cons rfl ?_)), by simp only; omega, ?_, ?_⟩
            · rw [hold 1 (by omega)]; exact get_app (get_app hS)
            simp only
            rw [wantTo_succ hk', if_pos hbit]
            simpa [enc] using hacc'
          · refine tl_opo (o_eql' rfl rfl (t := false) (by simpa [bitv] using hbit)) rfl rfl rfl rfl ?_
            refine tl_nil ?_
            refine tc_cond rfl (fun h => nomatch h) (fun _ => tc_skip ?_)
            refine tc_ops ?_
            refine tl_opo (o_add rfl rfl (c := ((k + 1 : Nat) : Int)) (by simp) (by omega) (by omega)) rfl rfl rfl rfl ?_
            refine tl_opo (o_move rfl) rfl rfl rfl rfl ?_; refine tl_nil ?_
            refine ⟨(k + 1, out), by simp only; omega, by (repeat' (first | exact wk_nil | refine wk_cons rfl ?_)), by simp only; omega, get_app (get_app hS), ?_⟩
            simp only
            rw [wantTo_succ hk', if_neg hbit, List.append_nil, List.append_nil]
            exact hacc.snoc _
      · have hk' : items.length ≤ k := by simpa using h
        have : k = items.length := by omega
        subst this
        clear h hk hk'
        refine tc_seq (tc_seq (tc_ops ?_))
        refine tl_opo (o_move rfl) rfl rfl rfl rfl ?_; refine tl_opo (o_len_imm rfl) rfl rfl rfl rfl ?_
        refine tl_opo (o_sub rfl rfl (c := (items.length : Int) - 1) (by simp; omega) (by omega) (by omega)) rfl rfl rfl rfl ?_
        refine tl_opo (o_move rfl) rfl rfl rfl rfl ?_; refine tl_nil ?_
        refine tc_block (loop_st (fun i => i) (fun i : Nat => [(2, .int .u64 lose), (7, .ptr 1 0 0), (10, out), (13, .int .i64 ((i : Int) - 1))])
          (fun i S => i ≤ items.length ∧ (∃ L, Var L (enc (kept items lose i)) ∧ S[1]? = some (some ⟨1, [[L]]⟩)) ∧ Acc 2 6 S out (enc (wantTo items lose items.length))) items.length (by (repeat' (first | exact wk_nil | refine wk_cons rfl ?_))) ⟨Nat.le_refl _, ⟨L, by rw [kept_all]; exact hL, hS⟩, hacc⟩ ?_)
        clear hS hS1 hL hacc
        rintro i S ⟨hi, ⟨L, hL, hS⟩, hacc⟩
        have hS1 : 1 < S.length := (List.getElem?_eq_some_iff.1 hS).1
        have hnr : norefL [AVal.agg [L]] = true := by
          rcases hL with ⟨rfl, _⟩ | rfl
          · rfl
          · simp [norefL, AVal.noref]
        refine tc_seq (tc_seq (tc_ops ?_))
        refine tl_opo (o_move rfl) rfl rfl rfl rfl ?_
        cases i with
        | succ j =>
          rw [show (((j + 1 : Nat) : Int) - 1) = (j : Int) by omega]
          refine tl_opo (o_geq' rfl rfl (t := true) (by simp)) rfl rfl rfl rfl ?_
          refine tl_nil ?_
          refine tc_cond rfl (fun _ => tc_skip ?_) (fun h => nomatch h)
          refine tc_seq (tc_block (tc_seq (tc_ops ?_)))
          refine tl_opo (o_move rfl) rfl rfl rfl rfl ?_; refine tl_opo (o_move rfl) rfl rfl rfl rfl ?_
          refine tl_opo (o_bit rfl rfl) rfl rfl rfl rfl ?_
          refine tl_opo (o_and rfl rfl) rfl rfl rfl rfl ?_
          have hks := kept_step (lose := lose) (show j < items.length by omega)
          have hkg := kept_ge (lose := lose) hi
          have hkl := kept_len items lose (j + 1)
          rcases bitv_cases lose j with hbit | hbit
          · refine tl_opo (o_eql' rfl rfl (t := false) (by have := hbit; unfold bitv at this; rw [this]; rfl)) rfl rfl rfl rfl ?_
            refine tl_nil ?_
            refine tc_cond rfl (fun h => nomatch h) (fun _ => tc_skip ?_)
            refine tc_ops ?_
            refine tl_opo (o_move rfl) rfl rfl rfl rfl ?_
            refine tl_opo (o_sub rfl rfl (c := (j : Int) - 1) rfl (by omega) (by omega)) rfl rfl rfl rfl ?_
            refine tl_opo (o_move rfl) rfl rfl rfl rfl ?_; refine tl_nil ?_
            refine ⟨j, by omega, by (repeat' (first | exact wk_nil | refine wk_cons rfl ?_)), by omega, ⟨L, ?_, hS⟩, hacc⟩
            rw [hks, if_pos hbit]; exact hL
          · refine tl_opo (o_eql' rfl rfl (t := true) (by have := hbit; unfold bitv at this; rw [this]; rfl)) rfl rfl rfl rfl ?_
            refine tl_nil ?_
            refine tc_cond rfl (fun _ => ?_) (fun h => nomatch h)
            refine tc_ops ?_
            refine tl_opo (o_load rfl hS rfl (Nat.le_of_ble_eq_true rfl) rfl) rfl rfl rfl rfl ?_
            refine tl_opo (o_move rfl) rfl rfl rfl rfl ?_
            refine tl_call' (as := [.agg [L], .int .i64 j]) (as' := [.agg [.imm (enc (kept items lose (j + 1)))], .int .i64 j]) rfl (frzL_cons (fun n => hL.frz1 (enc_closed _) (n + 1)) (frzL_cons (fun n => ⟨_, frz_ok rfl⟩) frzL_nil))
              (lose_ok _ j (by omega)) ?_ rfl rfl rfl rfl ?_
            · simp [norefL, AVal.noref] at hnr ⊢
              simp [hnr]
            refine tl_opo (o_move rfl) rfl rfl rfl rfl ?_; refine tl_opo (o_extract rfl rfl) rfl rfl rfl rfl ?_; refine tl_opo (o_extract rfl rfl) rfl rfl rfl rfl ?_
            refine tl_opo (o_store rfl rfl (get_app hS) rfl rfl rfl rfl (Nat.le_of_ble_eq_true rfl) rfl) rfl rfl rfl rfl ?_
            refine tl_nil ?_
            refine tc_ops ?_
            refine tl_opo (o_move rfl) rfl rfl rfl rfl ?_
            refine tl_opo (o_sub rfl rfl (c := (j : Int) - 1) rfl (by omega) (by omega)) rfl rfl rfl rfl ?_
            refine tl_opo (o_move rfl) rfl rfl rfl rfl ?_; refine tl_nil ?_
            refine ⟨j, by omega, by (repeat' (first | exact wk_nil | refine wk_cons rfl ?_)), by omega, ⟨_, .inr rfl, ?_⟩, ((hacc.snoc _).set (by omega) _)⟩
            have hle : Line.lose (kept items lose (j + 1)) j = (kept items lose (j + 1)).eraseIdx j := by
              unfold Line.lose
              rw [if_pos ⟨by omega, by omega⟩, Int.toNat_natCast]
            rw [set_get, if_pos ⟨rfl, by simp; omega⟩, hks, if_neg (by omega), ← hle]
            rfl
        | zero =>
          refine tl_opo (o_geq' rfl rfl (t := false) (by simp)) rfl rfl rfl rfl ?_
          refine tl_nil ?_
          refine tc_cond rfl (fun h => nomatch h) (fun _ => tc_exit ?_)
          have hkz := kept_zero items lose
          rw [hkz] at hL
          have hwl : (wantTo items lose items.length).length ≤ items.length := by rw [← hkz]; exact kept_len _ _ _
          have hwa : ∀ x ∈ wantTo items lose items.length, x.at_ ≤ 65535 := by
            intro x hx
            simp only [wantTo, List.mem_map, List.mem_filter] at hx
            obtain ⟨⟨y, n⟩, ⟨h1, _⟩, rfl⟩ := hx
            refine hall y ?_
            have := List.fst_mem_of_mem_zipIdx h1
            exact List.mem_of_mem_take this
          generalize wantTo items lose items.length = W at *
          have hrd : (ready W 65535).length = W.length := readyTo_all hwa _ (Nat.le_refl _)
          refine tc_seq (tc_ops ?_)
          refine tl_opo (o_load rfl hS rfl (Nat.le_of_ble_eq_true rfl) rfl) rfl rfl rfl rfl ?_
          refine tl_call' (as := [.agg [L]]) (as' := [.agg [.imm (enc W)]]) rfl (frzL_cons (fun n => hL.frz1 (enc_closed _) (n + 1)) frzL_nil)
            (all_ok W (by omega)) (by rw [hnr]; rfl) rfl rfl rfl rfl ?_
          refine tl_opo (o_move rfl) rfl rfl rfl rfl ?_
          have heq : CallR AP 19 [.imm (enc W), .imm (enc W)] (.bool true) := by
            have := equal_ok W W (by omega)
            rwa [decide_eq_true rfl] at this
          refine tl_call' (as := [.imm (enc W), out]) (as' := [.imm (enc W), .imm (enc W)]) rfl (frzL_cons (fun n => ⟨_, frz_ok (enc_closed _)⟩) (frzL_cons (fun n => (hacc.snoc _).frz (n := n + 2) (enc_closed _)) frzL_nil))
            heq (by simp [AVal.flat]) rfl rfl rfl rfl ?_
          refine tl_opo (o_move rfl) rfl rfl rfl rfl ?_
          refine tl_opo (o_load rfl (get_app (get_app hS)) rfl (Nat.le_of_ble_eq_true rfl) rfl) rfl rfl rfl rfl ?_
          refine tl_call' (as := [.agg [L], .int .u64 65535]) (as' := [.agg [.imm (enc W)], .int .u64 65535]) rfl (frzL_cons (fun n => hL.frz1 (enc_closed _) (n + 1)) (frzL_cons (fun n => ⟨_, frz_ok rfl⟩) frzL_nil))
            (ready_ok W 65535 (by omega)) ?_ rfl rfl rfl rfl ?_
          · simp [norefL, AVal.noref] at hnr ⊢
            simp [hnr]
          refine tl_opo (o_len_imm rfl) rfl rfl rfl rfl ?_; refine tl_opo (o_move rfl) rfl rfl rfl rfl ?_
          refine tl_opo (o_len_acc rfl hacc) rfl rfl rfl rfl ?_
          refine tl_opo (o_eql' rfl rfl (t := true) (by simp [hrd])) rfl rfl rfl rfl ?_
          refine tl_opo (o_pick rfl rfl rfl) rfl rfl rfl rfl ?_; refine tl_opo (o_move rfl) rfl rfl rfl rfl ?_
          refine tl_opo (o_load rfl (get_app (get_app (get_app hS))) rfl (Nat.le_of_ble_eq_true rfl) rfl) rfl rfl rfl rfl ?_
          refine tl_call' (as := [.agg [L]]) (as' := [.agg [.imm (enc W)]]) rfl (frzL_cons (fun n => hL.frz1 (enc_closed _) (n + 1)) frzL_nil)
            (len_ok W) (by rw [hnr]; rfl) rfl rfl rfl rfl ?_
          refine tl_opo (o_move rfl) rfl rfl rfl rfl ?_
          refine tl_opo (o_len_acc rfl hacc) rfl rfl rfl rfl ?_
          refine tl_opo (o_eql' rfl rfl (t := true) (by simp)) rfl rfl rfl rfl ?_
          refine tl_opo (o_pick rfl rfl rfl) rfl rfl rfl rfl ?_; refine tl_opo (o_move rfl) rfl rfl rfl rfl ?_; refine tl_nil ?_
          exact tc_ret (retd rfl ⟨_, frz_ok rfl⟩)

end Go.Eng.Line

