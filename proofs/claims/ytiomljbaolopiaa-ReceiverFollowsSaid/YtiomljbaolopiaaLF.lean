/- A part of the engine: a machine over abstract values, and the proof that the program does what it does; no condition. -/
import Derived.Test.YtiomljbaolopiaaLD
set_option linter.unusedSectionVars false
set_option linter.unusedVariables false
set_option linter.unusedSimpArgs false
set_option linter.unnecessarySimpa false
/- ReceiverFollows: what holds of the states. -/
namespace Go.Eng.Recv
open Go Go.Eng

/-- the texts -/
def txt (ps : List (List UInt8)) (j : Nat) : List UInt8 := 97 :: (ps.take j).flatten
/-- none begins with an exclamation mark -/
def Plain (ps : List (List UInt8)) : Prop := ∀ p ∈ ps, p.head? ≠ some 33

theorem txt_app (ps : List (List UInt8)) {a b : Nat} (h : a ≤ b) : txt ps b = txt ps a ++ ((ps.take b).drop a).flatten := by
  unfold txt
  rw [List.cons_append, ← List.flatten_append]
  congr 2
  rw [show ps.take a = (ps.take b).take a by rw [List.take_take, Nat.min_eq_left h], List.take_append_drop]
theorem txt_drop (ps : List (List UInt8)) {a b : Nat} (h : a ≤ b) : (txt ps b).drop (txt ps a).length = ((ps.take b).drop a).flatten := by
  rw [txt_app ps h, List.drop_left]
theorem txt_len (ps : List (List UInt8)) {a b : Nat} (h : a ≤ b) : (txt ps a).length ≤ (txt ps b).length := by
  rw [txt_app ps h, List.length_append]; omega
theorem txt_max {ps : List (List UInt8)} (hp : ∀ p ∈ ps, p.length ≤ 40) (hn : ps.length ≤ 20) (j : Nat) : (txt ps j).length ≤ 801 := by
  have : ∀ (qs : List (List UInt8)), (∀ p ∈ qs, p.length ≤ 40) → qs.flatten.length ≤ 40 * qs.length := by
    intro qs
    induction qs with
    | nil => intro _; simp
    | cons q qs ih =>
      intro h
      have h1 := h q (by simp)
      have h2 := ih (fun p hp => h p (by simp [hp]))
      simp at *; omega
  have h1 := this (ps.take j) (fun p hp' => hp p (List.mem_of_mem_take hp'))
  unfold txt
  simp only [List.length_cons, List.length_take] at *
  omega
theorem flat_head : ∀ (qs : List (List UInt8)), (∀ p ∈ qs, p.head? ≠ some 33) → qs.flatten.head? ≠ some 33
  | [], _ => by simp
  | q :: qs, h => by
    cases q with
    | nil => simpa using flat_head qs (fun p hp => h p (by simp [hp]))
    | cons c q => have := h (c :: q) (by simp); simpa using this
theorem doR_txt {ps : List (List UInt8)} (hp : Plain ps) {a b : Nat} (h : a ≤ b) : doR (txt ps a) (((ps.take b).drop a).flatten) = some (txt ps b) := by
  have hh := flat_head ((ps.take b).drop a) (fun p hp' => hp p (List.mem_of_mem_take (List.mem_of_mem_drop hp')))
  rw [txt_app ps h]
  unfold doR
  split
  · rename_i c q hc
    rw [hc] at hh
    rw [if_neg (by simpa using hh)]
  · rfl

/-- the states that it has are some that were sent; the known one is among them -/
structure Fol (ps : List (List UInt8)) (l : List Sta) (base : Nat) : Prop where
  rises : Rises l
  len : l.length ≤ 8
  sent : ∀ s ∈ l, ∃ j : Nat, j ≤ ps.length ∧ s = ⟨(j : Int), txt ps j⟩
  known : ⟨(base : Int), txt ps base⟩ ∈ l
  near : ∀ s ∈ l, s.num ≤ (base : Int) + 7
  base_le : base ≤ ps.length

theorem Fol.ne {ps : List (List UInt8)} {l : List Sta} {base : Nat} (h : Fol ps l base) : l ≠ [] := fun e => by have := h.known; rw [e] at this; cases this
theorem Fol.tx {ps : List (List UInt8)} {l : List Sta} {base : Nat} (h : Fol ps l base) (hp : ∀ p ∈ ps, p.length ≤ 40) (hn : ps.length ≤ 20) : ∀ s ∈ l, s.tx.length ≤ 801 := by
  intro s hs
  obtain ⟨j, _, rfl⟩ := h.sent s hs
  exact txt_max hp hn j

/-- the last one is the greatest -/
theorem last_max {l : List Sta} (hr : Rises l) {m : Nat} (hm : l.length = m + 1) {s : Sta} (hs : s ∈ l) : s.num ≤ (l[m]'(by omega)).num := by
  obtain ⟨j, hj, rfl⟩ := List.getElem_of_mem hs
  rcases Nat.lt_or_ge j m with h | h
  · have := hr j m h (by omega); omega
  · have : j = m := by omega
    subst this; omega

def fIns (ps : List (List UInt8)) (base to : Nat) : Ins := ⟨base, to, 0, base, ((ps.take to).drop base).flatten⟩

/-- one that is near comes -/
theorem Fol.take {ps : List (List UInt8)} (hp : Plain ps) {l : List Sta} {base : Nat} (h : Fol ps l base) {to : Nat} (h1 : base < to) (h2 : to ≤ base + 7) (h3 : to ≤ ps.length) :
    Fol ps (takeR l (fIns ps base to)).1 base ∧ ∀ s ∈ l, (base : Int) ≤ s.num → s ∈ (takeR l (fIns ps base to)).1 := by
  obtain ⟨hfb, htb⟩ := ofTx_mem h.rises h.known
  simp only at hfb htb
  rcases takeR_cases l (fIns ps base to) with ⟨_, e⟩ | ⟨_, x, _, _, e⟩ | ⟨hf, _, _, _, v, hv, e⟩
  · rw [e]; exact ⟨h, fun s hs _ => hs⟩
  · rw [e]; exact ⟨h, fun s hs _ => hs⟩
  · rw [e]
    simp only [fIns] at hf hv ⊢
    rw [htb, doR_txt hp (by omega)] at hv
    have hv : txt ps to = v := by simpa using hv
    subst hv
    obtain ⟨all, hall⟩ : ∃ all, insL l (to : Int) (txt ps to) = all := ⟨_, rfl⟩
    rw [hall]
    have hris : Rises all := by rw [← hall]; exact rises_ins h.rises hf
    have hmem : ∀ s, s ∈ all ↔ s = ⟨(to : Int), txt ps to⟩ ∨ s ∈ l := fun s => by rw [← hall]; exact mem_insL
    have hnear : ∀ s ∈ all, s.num ≤ (base : Int) + 7 := fun s hs => by
      rcases (hmem s).1 hs with rfl | hs
      · simp only; omega
      · exact h.near s hs
    have hkb : ⟨(base : Int), txt ps base⟩ ∈ all := (hmem _).2 (.inr h.known)
    -- what is cut
    obtain ⟨kb, hkb1, hkb2⟩ := List.getElem_of_mem hkb
    have hbel : below all (base : Int) = kb := below_spec (by omega) (fun j hj hjk => by have := hris j kb hjk hkb1; rw [hkb2] at this; simpa using this) (fun _ => by rw [hkb2]; simp)
    have hcnt : all.length - kb ≤ 8 := by
      have key : ∀ d, (hd : kb + d < all.length) → (base : Int) + d ≤ (all[kb + d]'hd).num := by
        intro d
        induction d with
        | zero => intro hd; simp only [Nat.add_zero]; rw [hkb2]; simp
        | succ d ih =>
          intro hd
          have h1 := ih (by omega)
          have h2 := hris (kb + d) (kb + (d + 1)) (by omega) hd
          push_cast
          omega
      rcases Nat.lt_or_ge 8 (all.length - kb) with hlt | hge
      · have h1 := key 8 (by omega)
        have h2 := hnear _ (List.getElem_mem (show kb + 8 < all.length by omega))
        omega
      · exact hge
    have hcut : cutAt all (base : Int) = kb := by unfold cutAt; rw [hbel]; omega
    rw [hcut]
    have hge : ∀ s ∈ all, (base : Int) ≤ s.num → s ∈ all.drop kb := by
      intro s hs hb
      obtain ⟨j, hj, rfl⟩ := List.getElem_of_mem hs
      have : kb ≤ j := by
        rcases Nat.lt_or_ge j kb with h | h
        · have := hris j kb h hkb1; rw [hkb2] at this; simp only at this; omega
        · exact h
      have e2 : (all.drop kb)[j - kb]? = some all[j] := by rw [List.getElem?_drop, show kb + (j - kb) = j by omega, List.getElem?_eq_getElem hj]
      exact List.mem_of_getElem? e2
    refine ⟨⟨rises_drop hris _, by rw [List.length_drop]; exact hcnt, ?_, hge _ hkb (by simp), fun s hs => hnear s (List.mem_of_mem_drop hs), h.base_le⟩, fun s hs hb => hge s ((hmem s).2 (.inr hs)) hb⟩
    intro s hs
    rcases (hmem s).1 (List.mem_of_mem_drop hs) with rfl | hs
    · exact ⟨to, h3, rfl⟩
    · exact h.sent s hs

/-- the last one becomes the known one -/
theorem Fol.ack {ps : List (List UInt8)} {l : List Sta} {base : Nat} (h : Fol ps l base) {m : Nat} (hm : l.length = m + 1) : ∃ b2 : Nat, (l[m]'(by omega)).num = b2 ∧ Fol ps l b2 := by
  have hs := List.getElem_mem (show m < l.length by omega)
  obtain ⟨j, hj, he⟩ := h.sent _ hs
  refine ⟨j, by rw [he], h.rises, h.len, h.sent, by rw [← he]; exact hs, fun s hs' => ?_, hj⟩
  have := last_max h.rises hm hs'
  rw [he] at this
  simp only at this
  omega

/-- at last, the last one -/
theorem Fol.final {ps : List (List UInt8)} (hp : Plain ps) {l : List Sta} {base : Nat} (h : Fol ps l base) : ∃ l2, (takeR l (fIns ps base ps.length)).1 = l2 ++ [⟨(ps.length : Int), txt ps ps.length⟩] := by
  obtain ⟨hfb, htb⟩ := ofTx_mem h.rises h.known
  simp only at hfb htb
  have hmax : ∀ s ∈ l, s.num ≤ (ps.length : Int) := fun s hs => by
    obtain ⟨j, hj, rfl⟩ := h.sent s hs
    simp only; omega
  have there : found l (ps.length : Int) = true → ∃ l2, l = l2 ++ [⟨(ps.length : Int), txt ps ps.length⟩] := by
    intro hf
    obtain ⟨s, hs, hsn⟩ := (found_iff h.rises).1 hf
    obtain ⟨m, hm⟩ : ∃ m, l.length = m + 1 := ⟨l.length - 1, by have := List.length_pos_iff.2 h.ne; omega⟩
    have h1 := last_max h.rises hm hs
    have h2 := hmax _ (List.getElem_mem (show m < l.length by omega))
    obtain ⟨j, hj, he⟩ := h.sent _ (List.getElem_mem (show m < l.length by omega))
    have hj' : j = ps.length := by rw [he] at h1 h2; simp only at h1 h2; omega
    subst hj'
    refine ⟨l.take m, ?_⟩
    rw [← he]
    conv => lhs; rw [← List.take_append_drop m l]
    congr 1
    rw [List.drop_eq_getElem_cons (by omega), List.drop_eq_nil_of_le (by omega)]
  rcases takeR_cases l (fIns ps base ps.length) with ⟨hf, e⟩ | ⟨hf, x, hx0, _, e⟩ | ⟨hf, _, _, _, v, hv, e⟩
  · rw [e]; exact there hf
  · exfalso
    have hf0 : found l (ps.length : Int) = false := hf
    have hlt : base < ps.length := by
      rcases Nat.lt_or_ge base ps.length with h1 | h1
      · exact h1
      · have : base = ps.length := by have := h.base_le; omega
        rw [← this, hfb] at hf0; cases hf0
    have hh : ¬ (fIns ps base ps.length).new < (l.headD ⟨0, []⟩).num := by
      show ¬ (ps.length : Int) < _
      cases hl : l with
      | nil => exact absurd hl h.ne
      | cons y l' =>
        have := hmax y (by rw [hl]; simp)
        simp only [List.headD_cons]; omega
    have h19 : ¬ (found l (fIns ps base ps.length).old = false ∨ (fIns ps base ps.length).old ≥ (fIns ps base ps.length).new) := by
      show ¬ (found l (base : Int) = false ∨ (base : Int) ≥ (ps.length : Int))
      rw [hfb]; simp; omega
    have hdo : doR (ofTx l (fIns ps base ps.length).old) (fIns ps base ps.length).diff = some (txt ps ps.length) := by
      show doR (ofTx l (base : Int)) _ = _
      rw [htb]; exact doR_txt hp (by omega)
    unfold takeR at e
    rw [if_neg (by rw [hf]; simp), if_neg hh, if_neg h19, hdo] at e
    simp only [Prod.mk.injEq] at e
    exact hx0 e.2.2.symm
  · rw [e]
    simp only [fIns] at hf hv ⊢
    rw [htb, doR_txt hp h.base_le] at hv
    have hv : txt ps ps.length = v := by simpa using hv
    subst hv
    have hlb : lb l (ps.length : Int) = l.length := by
      have hle := lb_le l (ps.length : Int)
      rcases Nat.lt_or_ge (lb l (ps.length : Int)) l.length with h1 | h1
      · have h2 := lb_not h1
        have h3 := hmax _ (List.getElem_mem h1)
        have : found l (ps.length : Int) = true := (found_iff h.rises).2 ⟨_, List.getElem_mem h1, by omega⟩
        rw [hf] at this; cases this
      · omega
    have e2 : insL l (ps.length : Int) (txt ps ps.length) = l ++ [⟨(ps.length : Int), txt ps ps.length⟩] := by unfold insL; rw [hlb]; simp
    have hc := cutAt_lt (l := insL l (ps.length : Int) (txt ps ps.length)) (base : Int) (by rw [insL_len]; omega)
    rw [e2] at hc ⊢
    exact ⟨_, List.drop_append_of_le_length (by simp at hc; omega)⟩

end Go.Eng.Recv

/- ReceiverFollows: what the machine answers. -/
namespace Go.Eng.Recv
open Go Go.Eng
attribute [local irreducible] OpR TL TD TC CallR

theorem o_sliceFrom {m : FM} {slot : Nat} {S : Store} {x y : AOpd} {s : List UInt8} {k : IntKind} {n : Nat} (hx : lo m x = some (.str s)) (hy : lo m y = some (.int k (n : Int))) (hn : n ≤ s.length) : OpR AP m slot S (.sliceStr x (some y) none) (.str (s.drop n)) S ([], []) :=
  opr_v fun fr hfr f => by
    have e1 : abound (none : Option AVal) s.length s.length = some s.length := rfl
    have e2 : abound (some (AVal.int k (n : Int))) 0 s.length = some n := by simp only [abound]; rw [if_pos (by omega)]; simp
    simp only [semX, sem, hfr.opd hx, Option.map_none, Option.map_some, hfr.opd hy, e1, e2, List.take_length, RM.run]
theorem o_remu {m : FM} {slot : Nat} {S : Store} {x y : AOpd} {k : IntKind} {a b : Nat} (hx : lo m x = some (.int k (a : Int))) (hy : lo m y = some (.int k (b : Int))) (hb : 0 < b) : OpR AP m slot S (.bin .rem x y) (.int k ((a % b : Nat) : Int)) S ([], []) :=
  o_bin hx hy (by
    simp only [abin, isShift, aintop, Bool.false_eq_true, if_false, if_true]
    rw [if_neg (by omega), Int.tmod_eq_emod_of_nonneg (by omega)]
    simp)
theorem o_subu {m : FM} {slot : Nat} {S : Store} {x y : AOpd} {a b c : Int} (hx : lo m x = some (.int .u64 a)) (hy : lo m y = some (.int .u64 b)) (hc : a - b = c) (h1 : 0 ≤ c) (h2 : c < 18446744073709551616) : OpR AP m slot S (.bin .sub x y) (.int .u64 c) S ([], []) :=
  o_bin hx hy (by simp only [abin, isShift, aintop, Bool.false_eq_true, if_false, if_true, hc, wrapu64 h1 h2])

def encP (ps : List (List UInt8)) : List (List AVal) := ps.map fun p => [.str p]
@[simp] theorem encP_len (ps : List (List UInt8)) : (encP ps).length = ps.length := by simp [encP]
theorem encP_get {ps : List (List UInt8)} {i : Nat} (h : i < ps.length) : (encP ps)[i]? = some [.str ps[i]] := by simp [encP, h]
def encK (ps : List Int) : List (List AVal) := ps.map fun p => [.int .u16 p]
@[simp] theorem encK_len (ps : List Int) : (encK ps).length = ps.length := by simp [encK]
theorem encK_get {ps : List Int} {i : Nat} (h : i < ps.length) : (encK ps)[i]? = some [.int .u16 ps[i]] := by simp [encK, h]
/-- the texts of the first k -/
def encT (ps : List (List UInt8)) (k : Nat) : List (List AVal) := (List.range (k + 1)).map fun j => [.str (txt ps j)]
@[simp] theorem encT_len (ps : List (List UInt8)) (k : Nat) : (encT ps k).length = k + 1 := by simp [encT]
theorem encT_get {ps : List (List UInt8)} {k j : Nat} (h : j ≤ k) : (encT ps k)[j]? = some [.str (txt ps j)] := by
  unfold encT
  rw [List.getElem?_map, List.getElem?_range (by omega)]; rfl
theorem encT_succ (ps : List (List UInt8)) (k : Nat) : encT ps (k + 1) = encT ps k ++ [[.str (txt ps (k + 1))]] := by
  unfold encT
  rw [List.range_succ (n := k + 1), List.map_append]; rfl
theorem txt_succ {ps : List (List UInt8)} {k : Nat} (h : k < ps.length) : txt ps (k + 1) = txt ps k ++ ps[k] := by
  unfold txt
  rw [List.take_add_one, List.getElem?_eq_getElem h]
  simp only [Option.toList_some, List.flatten_append, List.flatten_cons, List.flatten_nil, List.append_nil, List.cons_append]

def TV (ps : List (List UInt8)) (i : Nat) (v : AVal) (S : Store) : Prop := (i = 0 ∧ v = .lim (encT ps 0)) ∨ (0 < i ∧ ∃ b, v = .view b 0 (i + 1) false ∧ S[b]? = some (some ⟨1, encT ps i⟩))

theorem follows_ok (ps : List (List UInt8)) (picks : List Int) (acks : Int) (hpk : ∀ p ∈ picks, 0 ≤ p ∧ p < 65536) : CallR AP 8 [.imm (encP ps), .imm (encK picks), .int .u32 acks] (.bool true) := by
  refine callR_of (af := c8) rfl rfl ?_
  refine tc_seq (tc_ops ?_)
  refine tl_opo (o_move rfl) rfl rfl rfl rfl ?_; refine tl_nil ?_
  refine tc_seq (tc_seq (tc_ops ?_))
  refine tl_call' (as := []) (as' := []) rfl frzL_nil awake_ok rfl rfl rfl rfl rfl ?_
  refine tl_opo (o_un rfl rfl) rfl rfl rfl rfl ?_; refine tl_nil ?_
  refine tc_cond rfl (fun h => nomatch h) (fun _ => tc_skip ?_)
  refine tc_seq (tc_seq (tc_ops ?_))
  refine tl_opo (o_move rfl) rfl rfl rfl rfl ?_; refine tl_opo (o_len_imm rfl) rfl rfl rfl rfl ?_
  by_cases hn : ps.length ≤ 20
  case neg =>
    refine tl_opo (o_gtr' rfl rfl (t := true) (by simp; omega)) rfl rfl rfl rfl ?_
    refine tl_opo (o_move rfl) rfl rfl rfl rfl ?_; refine tl_off0 rfl rfl rfl ?_; refine tl_off0 rfl rfl rfl ?_; refine tl_off0 rfl rfl rfl ?_; refine tl_opo (o_pick rfl rfl rfl) rfl rfl rfl rfl ?_; refine tl_opo (o_move rfl) rfl rfl rfl rfl ?_; refine tl_off0 rfl rfl rfl ?_; refine tl_off0 rfl rfl rfl ?_; refine tl_off0 rfl rfl rfl ?_; refine tl_opo (o_pick rfl rfl rfl) rfl rfl rfl rfl ?_; refine tl_nil ?_
    refine tc_cond rfl (fun _ => ?_) (fun h => nomatch h)
    refine tc_seq (tc_ops ?_)
    refine tl_opo (o_move rfl) rfl rfl rfl rfl ?_; refine tl_nil ?_
    exact tc_ret (retd rfl ⟨_, frz_ok rfl⟩)
  refine tl_opo (o_gtr' rfl rfl (t := false) (by simp; omega)) rfl rfl rfl rfl ?_
  refine tl_opo (o_move rfl) rfl rfl rfl rfl ?_; refine tl_opo (o_move rfl) rfl rfl rfl rfl ?_; refine tl_opo (o_len_imm rfl) rfl rfl rfl rfl ?_
  by_cases hk : picks.length ≤ 60
  case neg =>
    refine tl_opo (o_gtr' rfl rfl (t := true) (by simp; omega)) rfl rfl rfl rfl ?_
    refine tl_opo (o_pick rfl rfl rfl) rfl rfl rfl rfl ?_; refine tl_opo (o_move rfl) rfl rfl rfl rfl ?_; refine tl_off0 rfl rfl rfl ?_; refine tl_off0 rfl rfl rfl ?_; refine tl_off0 rfl rfl rfl ?_; refine tl_opo (o_pick rfl rfl rfl) rfl rfl rfl rfl ?_; refine tl_nil ?_
    refine tc_cond rfl (fun _ => ?_) (fun h => nomatch h)
    refine tc_seq (tc_ops ?_)
    refine tl_opo (o_move rfl) rfl rfl rfl rfl ?_; refine tl_nil ?_
    exact tc_ret (retd rfl ⟨_, frz_ok rfl⟩)
  refine tl_opo (o_gtr' rfl rfl (t := false) (by simp; omega)) rfl rfl rfl rfl ?_
  refine tl_opo (o_pick rfl rfl rfl) rfl rfl rfl rfl ?_; refine tl_opo (o_move rfl) rfl rfl rfl rfl ?_; refine tl_opo (o_move rfl) rfl rfl rfl rfl ?_; refine tl_opo (o_len_imm rfl) rfl rfl rfl rfl ?_
  by_cases h0 : ps.length = 0
  · refine tl_opo (o_eql' rfl rfl (t := true) (by simp [h0])) rfl rfl rfl rfl ?_
    refine tl_opo (o_pick rfl rfl rfl) rfl rfl rfl rfl ?_; refine tl_nil ?_
    refine tc_cond rfl (fun _ => ?_) (fun h => nomatch h)
    refine tc_seq (tc_ops ?_)
    refine tl_opo (o_move rfl) rfl rfl rfl rfl ?_; refine tl_nil ?_
    exact tc_ret (retd rfl ⟨_, frz_ok rfl⟩)
  refine tl_opo (o_eql' rfl rfl (t := false) (by simp; intro h; exact h0 (by simp [h]))) rfl rfl rfl rfl ?_
  refine tl_opo (o_pick rfl rfl rfl) rfl rfl rfl rfl ?_; refine tl_nil ?_
  refine tc_cond rfl (fun h => nomatch h) (fun _ => tc_skip ?_)
  refine tc_seq (tc_ops ?_)
  refine tl_opo (o_buildSlice rfl rfl) rfl rfl rfl rfl ?_; refine tl_opo (o_move rfl) rfl rfl rfl rfl ?_; refine tl_nil ?_
  dsimp only [putM, initM, acells, effS, List.nil_append, List.cons_append, List.length_nil, List.length_cons, List.set_cons_zero, List.set_cons_succ, List.set_nil, List.append_nil, Nat.zero_add, Nat.add_zero, Nat.reduceAdd, List.replicate, nslots]
  -- the texts
  refine tc_cut (σ := Nat) (fun b => [(0, .imm (encP ps)), (1, .imm (encK picks)), (2, .int .u32 acks), (7, .view b 0 (ps.length + 1) false)]) (fun b S => S[b]? = some (some ⟨1, encT ps ps.length⟩) ∧ (∀ p ∈ ps, p.length ≤ 40) ∧ Plain ps) ?_ ?_
  · refine tc_seq (tc_ops ?_)
    refine tl_opo (o_move rfl) rfl rfl rfl rfl ?_; refine tl_opo (o_len_imm rfl) rfl rfl rfl rfl ?_; refine tl_opo (o_move rfl) rfl rfl rfl rfl ?_; refine tl_nil ?_
    refine tc_block (loop_st (σ := Nat × AVal) (fun s => ps.length - s.1) (fun s => [(0, .imm (encP ps)), (1, .imm (encK picks)), (2, .int .u32 acks), (7, s.2), (43, .imm (encP ps)), (44, .int .i64 (encP ps).length), (45, .int .i64 (s.1 : Int))])
      (fun s S => s.1 ≤ ps.length ∧ TV ps s.1 s.2 S ∧ (∀ p ∈ ps.take s.1, p.length ≤ 40 ∧ p.head? ≠ some 33)) (0, .lim (encT ps 0)) (by (repeat' (first | exact wk_nil | refine wk_cons rfl ?_))) ⟨Nat.zero_le _, .inl ⟨rfl, rfl⟩, fun p h => by simp at h⟩ ?_)
    rintro ⟨i, v⟩ S ⟨hi, htv, hpp⟩
    simp only at hi htv hpp
    refine tc_seq (tc_ops ?_)
    refine tl_opo (o_lss rfl rfl) rfl rfl rfl rfl ?_; refine tl_nil ?_
    refine tc_seq (tc_cond rfl (fun h => tc_skip ?_) (fun h => tc_exit ?_))
    · have hi' : i < ps.length := by simpa using h
      clear h
      have hmax : (txt ps i).length ≤ 801 := by
        have h1 : txt ps i = txt (ps.take i) i := by unfold txt; rw [List.take_take, Nat.min_self]
        rw [h1]
        exact txt_max (fun p hp => (hpp p hp).1) (by simp; omega) i
      refine tc_seq (tc_block (tc_seq (tc_ops ?_)))
      refine tl_opo (o_iaddr rfl rfl (encP_get hi') rfl) rfl rfl rfl rfl ?_
      refine tl_opo (o_loadr rfl (Nat.le_of_ble_eq_true rfl) rfl) rfl rfl rfl rfl ?_; refine tl_opo (o_move rfl) rfl rfl rfl rfl ?_; refine tl_nil ?_
      refine tc_cut (σ := Unit) (fun _ => [(0, .imm (encP ps)), (1, .imm (encK picks)), (2, .int .u32 acks), (7, v), (9, .str ps[i]), (43, .imm (encP ps)), (44, .int .i64 (encP ps).length), (45, .int .i64 (i : Int))]) (fun _ S' => S' = S ∧ ps[i].length ≤ 40 ∧ ps[i].head? ≠ some 33) ?_ ?_
      · refine tc_seq (tc_ops ?_)
        refine tl_opo (o_move rfl) rfl rfl rfl rfl ?_
        refine tl_opo (o_len_str rfl) rfl rfl rfl rfl ?_
        by_cases h40 : ps[i].length ≤ 40
        case neg =>
          refine tl_opo (o_gtr' rfl rfl (t := true) (by simp; omega)) rfl rfl rfl rfl ?_
          refine tl_opo (o_move rfl) rfl rfl rfl rfl ?_; refine tl_off0 rfl rfl rfl ?_; refine tl_off0 rfl rfl rfl ?_; refine tl_off0 rfl rfl rfl ?_; refine tl_off0 rfl rfl rfl ?_; refine tl_off0 rfl rfl rfl ?_; refine tl_off0 rfl rfl rfl ?_; refine tl_off0 rfl rfl rfl ?_; refine tl_off0 rfl rfl rfl ?_; refine tl_opo (o_pick rfl rfl rfl) rfl rfl rfl rfl ?_; refine tl_nil ?_
          refine tc_cond rfl (fun _ => ?_) (fun h => nomatch h)
          refine tc_seq (tc_ops ?_)
          refine tl_opo (o_move rfl) rfl rfl rfl rfl ?_; refine tl_nil ?_
          exact tc_ret (retd rfl ⟨_, frz_ok rfl⟩)
        refine tl_opo (o_gtr' rfl rfl (t := false) (by simp; omega)) rfl rfl rfl rfl ?_
        refine tl_opo (o_move rfl) rfl rfl rfl rfl ?_; refine tl_opo (o_move rfl) rfl rfl rfl rfl ?_
        refine tl_opo (o_len_str rfl) rfl rfl rfl rfl ?_
        obtain ⟨pi, hpi⟩ : ∃ pi, ps[i] = pi := ⟨_, rfl⟩
        rw [hpi] at h40 ⊢
        cases pi with
        | nil =>
          refine tl_opo (o_gtr' rfl rfl (t := false) (by simp)) rfl rfl rfl rfl ?_
          refine tl_opo (o_move rfl) rfl rfl rfl rfl ?_; refine tl_off0 rfl rfl rfl ?_; refine tl_off0 rfl rfl rfl ?_; refine tl_off0 rfl rfl rfl ?_; refine tl_opo (o_pick rfl rfl rfl) rfl rfl rfl rfl ?_; refine tl_opo (o_pick rfl rfl rfl) rfl rfl rfl rfl ?_; refine tl_nil ?_
          refine tc_cond rfl (fun h => nomatch h) (fun _ => tc_skip ?_)
          exact ⟨(), by (repeat' (first | exact wk_nil | refine wk_cons rfl ?_)), rfl, by simp, by simp⟩
        | cons c q =>
          refine tl_opo (o_gtr' rfl rfl (t := true) (by simp)) rfl rfl rfl rfl ?_
          refine tl_opo (o_move rfl) rfl rfl rfl rfl ?_; refine tl_opo (o_move rfl) rfl rfl rfl rfl ?_
          refine tl_opo (o_idxStr (s := c :: q) (n := 0) (b := c) rfl rfl rfl) rfl rfl rfl rfl ?_
          by_cases hc : c = 33
          · refine tl_opo (o_eql' rfl rfl (t := true) (by rw [hc]; rfl)) rfl rfl rfl rfl ?_
            refine tl_opo (o_pick rfl rfl rfl) rfl rfl rfl rfl ?_; refine tl_opo (o_pick rfl rfl rfl) rfl rfl rfl rfl ?_; refine tl_nil ?_
            refine tc_cond rfl (fun _ => ?_) (fun h => nomatch h)
            refine tc_seq (tc_ops ?_)
            refine tl_opo (o_move rfl) rfl rfl rfl rfl ?_; refine tl_nil ?_
            exact tc_ret (retd rfl ⟨_, frz_ok rfl⟩)
          · have hc' : ¬ ((c.toNat : Int) = 33) := fun h => hc (UInt8.toNat_inj.1 (show c.toNat = (33 : UInt8).toNat from (by have : c.toNat = 33 := (by omega); rw [this]; rfl)))
            refine tl_opo (o_eql' rfl rfl (t := false) (by simpa using hc')) rfl rfl rfl rfl ?_
            refine tl_opo (o_pick rfl rfl rfl) rfl rfl rfl rfl ?_; refine tl_opo (o_pick rfl rfl rfl) rfl rfl rfl rfl ?_; refine tl_nil ?_
            refine tc_cond rfl (fun h => nomatch h) (fun _ => tc_skip ?_)
            exact ⟨(), by (repeat' (first | exact wk_nil | refine wk_cons rfl ?_)), rfl, h40, by simpa using hc⟩
      · rintro - S' ⟨rfl, h40, hhd⟩
        have hadd : ∀ {m : FM} {slot : Nat} {S : Store} {x y : AOpd}, lo m x = some (.str (txt ps i)) → lo m y = some (.str ps[i]) → OpR AP m slot S (.bin .add x y) (.str (txt ps (i + 1))) S ([], []) := by
          intro m slot S x y h1 h2
          rw [txt_succ hi']
          exact o_bin h1 h2 (by simp only [abin, astrop]; rw [if_pos (by omega)])
        have hpp' : ∀ p ∈ ps.take (i + 1), p.length ≤ 40 ∧ p.head? ≠ some 33 := by
          intro p hp
          rw [List.take_add_one, List.getElem?_eq_getElem hi', Option.toList_some] at hp
          rcases List.mem_append.1 hp with hp | hp
          · exact hpp p hp
          · rw [List.mem_singleton.1 hp]; exact ⟨h40, hhd⟩
        refine tc_ops ?_
        rcases htv with ⟨rfl, rfl⟩ | ⟨hi0, b, rfl, hb⟩
        · refine tl_opo (o_move rfl) rfl rfl rfl rfl ?_; refine tl_opo (o_move rfl) rfl rfl rfl rfl ?_; refine tl_opo (o_move rfl) rfl rfl rfl rfl ?_; refine tl_opo (o_len_lim rfl) rfl rfl rfl rfl ?_
          refine tl_opo (o_sub rfl rfl (c := ((0 : Nat) : Int)) (by simp) (by omega) (by omega)) rfl rfl rfl rfl ?_
          refine tl_opo (o_iaddr_lim rfl rfl (encT_get (Nat.le_refl _)) rfl) rfl rfl rfl rfl ?_
          refine tl_opo (o_loadr rfl (Nat.le_of_ble_eq_true rfl) rfl) rfl rfl rfl rfl ?_; refine tl_opo (o_move rfl) rfl rfl rfl rfl ?_
          refine tl_opo (hadd rfl rfl) rfl rfl rfl rfl ?_
          refine tl_opo (o_buildSlice rfl rfl) rfl rfl rfl rfl ?_
          refine tl_opn (o_append_lim rfl rfl (rows := [[.str (txt ps (0 + 1))]]) rfl (by simp) (by simp) rfl) rfl rfl rfl rfl ?_
          rw [set_snoc, ← encT_succ]
          refine tl_opo (o_move rfl) rfl rfl rfl rfl ?_; refine tl_nil ?_
          refine tc_ops ?_
          refine tl_opo (o_add rfl rfl (c := ((0 + 1 : Nat) : Int)) (by simp) (by omega) (by omega)) rfl rfl rfl rfl ?_
          refine tl_opo (o_move rfl) rfl rfl rfl rfl ?_; refine tl_nil ?_
          exact ⟨(0 + 1, .view S'.length 0 ((encT ps 0).length + ([[AVal.str (txt ps (0 + 1))]] : List (List AVal)).length) false), by simp only; omega, by (repeat' (first | exact wk_nil | refine wk_cons rfl ?_)), by simp only; omega, .inr ⟨by simp only; omega, S'.length, by simp, get_snoc⟩, hpp'⟩
        · refine tl_opo (o_move rfl) rfl rfl rfl rfl ?_; refine tl_opo (o_move rfl) rfl rfl rfl rfl ?_; refine tl_opo (o_move rfl) rfl rfl rfl rfl ?_; refine tl_opo (o_len_view rfl) rfl rfl rfl rfl ?_
          refine tl_opo (o_sub rfl rfl (c := (i : Int)) (by simp) (by omega) (by omega)) rfl rfl rfl rfl ?_
          have hbl : b < S'.length := (List.getElem?_eq_some_iff.1 hb).1
          refine tl_opo (o_iaddr_view rfl rfl (by omega) hb rfl) rfl rfl rfl rfl ?_
          refine tl_opo (o_load rfl hb (by rw [Nat.zero_add]; exact encT_get (Nat.le_refl _)) (Nat.le_of_ble_eq_true rfl) rfl) rfl rfl rfl rfl ?_
          refine tl_opo (o_move rfl) rfl rfl rfl rfl ?_
          refine tl_opo (hadd rfl rfl) rfl rfl rfl rfl ?_
          refine tl_opo (o_buildSlice rfl rfl) rfl rfl rfl rfl ?_
          refine tl_opn (o_append_view rfl rfl (rows := [[.str (txt ps (i + 1))]]) rfl (by simp) (get_app hb) (by simp) (by simp; omega) rfl) rfl rfl rfl rfl ?_
          rw [← encT_succ]
          refine tl_opo (o_move rfl) rfl rfl rfl rfl ?_; refine tl_nil ?_
          refine tc_ops ?_
          refine tl_opo (o_add rfl rfl (c := ((i + 1 : Nat) : Int)) (by simp) (by omega) (by omega)) rfl rfl rfl rfl ?_
          refine tl_opo (o_move rfl) rfl rfl rfl rfl ?_; refine tl_nil ?_
          refine ⟨(i + 1, .view S'.length 0 (i + 1 + ([[AVal.str (txt ps (i + 1))]] : List (List AVal)).length) false), by simp only; omega, by (repeat' (first | exact wk_nil | refine wk_cons rfl ?_)), by simp only; omega, .inr ⟨by simp only; omega, S'.length, by simp, ?_⟩, hpp'⟩
          rw [set_get, if_pos ⟨rfl, by simp⟩]
    · have hi' : ps.length ≤ i := by simpa using h
      have : i = ps.length := by omega
      subst this
      rcases htv with ⟨h1, _⟩ | ⟨_, b, rfl, hb⟩
      · exact absurd h1 h0
      · rw [List.take_of_length_le (Nat.le_refl _)] at hpp
        exact ⟨b, by (repeat' (first | exact wk_nil | refine wk_cons rfl ?_)), hb, fun p hp => (hpp p hp).1, fun p hp => (hpp p hp).2⟩
  · rintro b S ⟨hb, hp40, hpl⟩
    have htx : ∀ j, (txt ps j).length ≤ 801 := fun j => txt_max hp40 hn j
    have hdl : ∀ a c : Nat, a ≤ c → (((ps.take c).drop a).flatten).length ≤ 801 := fun a c h => by
      have h1 := htx c
      rw [← txt_drop ps h, List.length_drop]; omega
    have hfol0 : Fol ps [⟨0, [97]⟩] 0 := ⟨fun i j hij hj => by simp at hj; omega, by simp, fun s hs => ⟨0, by omega, by simp at hs; subst hs; simp [txt]⟩, by simp [txt], fun s hs => by simp at hs; subst hs; simp, by omega⟩
    refine tc_seq (tc_ops ?_)
    refine tl_call' (as := []) (as' := []) rfl frzL_nil rule0_ok rfl rfl rfl rfl rfl ?_
    refine tl_call' (as := [.str [97], .agg [ruleV]]) (as' := [.str [97], .agg [ruleV]]) rfl (frzL_cons (fun n => ⟨_, frz_ok rfl⟩) (frzL_cons (fun n => ⟨_, frz_ok rfl⟩) frzL_nil)) (new_ok [97]) rfl rfl rfl rfl rfl ?_
    generalize hT : S ++ [none] ++ [none] = T
    have hTb : T[b]? = some (some ⟨1, encT ps ps.length⟩) := by rw [← hT]; exact get_app (get_app hb)
    clear hT hb
    refine tl_opn o_alloc rfl rfl rfl rfl ?_
    rw [set_snoc]
    refine tl_opo (o_store rfl rfl get_snoc rfl rfl rfl rfl (Nat.le_of_ble_eq_true rfl) rfl) rfl rfl rfl rfl ?_
    rw [set_snoc]
    refine tl_nil ?_
    generalize hU : T ++ [_] = U
    have hUb : U[b]? = some (some ⟨1, encT ps ps.length⟩) := by rw [← hU]; exact get_app hTb
    have hUn : U[T.length]? = some (some ⟨2, [[ruleV, .imm (encS [⟨0, [97]⟩])]]⟩) := by rw [← hU]; exact get_snoc
    have hbn : b ≠ T.length := by have := (List.getElem?_eq_some_iff.1 hTb).1; omega
    clear hU hTb
    generalize T.length = nx at hUn hbn
    clear T S
    refine tc_seq (tc_ops ?_)
    refine tl_opo (o_move rfl) rfl rfl rfl rfl ?_; refine tl_nil ?_
    refine tc_cut (σ := List Sta × Nat) (fun s => [(0, .imm (encP ps)), (7, .view b 0 (ps.length + 1) false), (10, .ptr nx 0 0), (11, .int .u64 (s.2 : Int))]) (fun s S => Fol ps s.1 s.2 ∧ S[b]? = some (some ⟨1, encT ps ps.length⟩) ∧ S[nx]? = some (some ⟨2, [[ruleV, .imm (encS s.1)]]⟩)) ?_ ?_
    · refine tc_seq (tc_ops ?_)
      refine tl_opo (o_move rfl) rfl rfl rfl rfl ?_; refine tl_opo (o_len_imm rfl) rfl rfl rfl rfl ?_; refine tl_opo (o_move rfl) rfl rfl rfl rfl ?_; refine tl_nil ?_
      refine tc_block (loop_st (σ := Nat × List Sta × Nat) (fun s => picks.length - s.1) (fun s => [(0, .imm (encP ps)), (2, .int .u32 acks), (7, .view b 0 (ps.length + 1) false), (10, .ptr nx 0 0), (11, .int .u64 (s.2.2 : Int)), (76, .imm (encK picks)), (77, .int .i64 (encK picks).length), (78, .int .i64 (s.1 : Int))])
        (fun s S => s.1 ≤ picks.length ∧ Fol ps s.2.1 s.2.2 ∧ S[b]? = some (some ⟨1, encT ps ps.length⟩) ∧ S[nx]? = some (some ⟨2, [[ruleV, .imm (encS s.2.1)]]⟩)) (0, [⟨0, [97]⟩], 0) (by (repeat' (first | exact wk_nil | refine wk_cons rfl ?_))) ⟨Nat.zero_le _, hfol0, hUb, hUn⟩ ?_)
      clear hUb hUn
      rintro ⟨k, l, base⟩ S ⟨hkk, hf, hSb, hSn⟩
      simp only at hkk hf hSb hSn
      refine tc_seq (tc_ops ?_)
      refine tl_opo (o_lss rfl rfl) rfl rfl rfl rfl ?_; refine tl_nil ?_
      refine tc_seq (tc_cond rfl (fun h => tc_skip ?_) (fun h => tc_exit ?_))
      · have hk' : k < picks.length := by simpa using h
        clear h
        obtain ⟨P, hP⟩ : ∃ P : Nat, picks[k] = P := ⟨picks[k].toNat, by have := (hpk _ (List.getElem_mem hk')).1; omega⟩
        have hP2 : P < 65536 := by have := (hpk _ (List.getElem_mem hk')).2; omega
        have hrow : (encK picks)[k]? = some [.int .u16 (P : Int)] := by rw [encK_get hk', hP]
        have hble := hf.base_le
        obtain ⟨D, hD⟩ : ∃ D, min (max (ps.length - base) 1) 7 = D := ⟨_, rfl⟩
        obtain ⟨Q, hQ⟩ : ∃ Q, P % D = Q := ⟨_, rfl⟩
        have hQD : Q < D := by rw [← hQ]; exact Nat.mod_lt _ (by omega)
        refine tc_seq (tc_block (tc_seq (tc_ops ?_)))
        refine tl_opo (o_move rfl) rfl rfl rfl rfl ?_
        refine tl_opo (o_iaddr rfl rfl hrow rfl) rfl rfl rfl rfl ?_
        refine tl_opo (o_loadr rfl (Nat.le_of_ble_eq_true rfl) rfl) rfl rfl rfl rfl ?_; refine tl_opo (o_move rfl) rfl rfl rfl rfl ?_; refine tl_opo (o_move rfl) rfl rfl rfl rfl ?_; refine tl_nil ?_
        refine tc_seq (tc_ops ?_)
        refine tl_opo (o_move rfl) rfl rfl rfl rfl ?_; refine tl_opo (o_len_imm rfl) rfl rfl rfl rfl ?_
        refine tl_opo (o_conv rfl) rfl rfl rfl rfl ?_
        rw [encP_len, wrapu64 (n := (ps.length : Int)) (by omega) (by omega)]
        refine tl_opo (o_move rfl) rfl rfl rfl rfl ?_; refine tl_nil ?_
        refine tc_seq (tc_ops ?_)
        refine tl_opo (o_move rfl) rfl rfl rfl rfl ?_
        refine tl_opo (o_addu rfl rfl (c := ((base + 1 : Nat) : Int)) (by simp) (by omega) (by omega)) rfl rfl rfl rfl ?_
        refine tl_opo (o_move rfl) rfl rfl rfl rfl ?_
        refine tl_opo (o_conv rfl) rfl rfl rfl rfl ?_
        rw [wrapu64 (n := (P : Int)) (by omega) (by omega)]
        refine tl_opo (o_move rfl) rfl rfl rfl rfl ?_; refine tl_opo (o_move rfl) rfl rfl rfl rfl ?_
        refine tl_opo (o_subu rfl rfl (c := ((ps.length - base : Nat) : Int)) (by simp only; omega) (by omega) (by omega)) rfl rfl rfl rfl ?_
        refine tl_opo (o_maxI rfl (v := .int .u64 ((max (ps.length - base) 1 : Nat) : Int)) (by simp only [aext, foldI, if_true, Option.map_some]; congr 2; split <;> omega)) rfl rfl rfl rfl ?_
        refine tl_opo (o_minI rfl (v := .int .u64 ((D : Nat) : Int)) (by simp only [aext, foldI, if_true, Option.map_some]; congr 2; split <;> omega)) rfl rfl rfl rfl ?_
        refine tl_opo (o_remu rfl rfl (by omega)) rfl rfl rfl rfl ?_
        rw [hQ]
        refine tl_opo (o_addu rfl rfl (c := ((base + 1 + Q : Nat) : Int)) (by simp) (by omega) (by omega)) rfl rfl rfl rfl ?_
        refine tl_opo (o_move rfl) rfl rfl rfl rfl ?_; refine tl_nil ?_
        refine tc_seq (tc_seq (tc_ops ?_))
        refine tl_opo (o_move rfl) rfl rfl rfl rfl ?_; refine tl_opo (o_move rfl) rfl rfl rfl rfl ?_
        by_cases hto : base + 1 + Q > ps.length
        · refine tl_opo (o_gtr' rfl rfl (t := true) (by simp; omega)) rfl rfl rfl rfl ?_
          refine tl_nil ?_
          refine tc_cond rfl (fun _ => tc_exit ?_) (fun h => nomatch h)
          exact ⟨(l, base), by (repeat' (first | exact wk_nil | refine wk_cons rfl ?_)), hf, hSb, hSn⟩
        refine tl_opo (o_gtr' rfl rfl (t := false) (by simp; omega)) rfl rfl rfl rfl ?_
        refine tl_nil ?_
        refine tc_cond rfl (fun h => nomatch h) (fun _ => tc_skip ?_)
        obtain ⟨to, hto2⟩ : ∃ to, base + 1 + Q = to := ⟨_, rfl⟩
        rw [hto2] at hto ⊢
        obtain ⟨m, hm⟩ : ∃ m, l.length = m + 1 := ⟨l.length - 1, by have := List.length_pos_iff.2 hf.ne; omega⟩
        have hlen := hf.len
        obtain ⟨hf', hkeep⟩ := hf.take hpl (to := to) (by omega) (by omega) (by omega)
        have hcall := take_ok l (fIns ps base to) hf.ne (by omega) hf.rises (fun s hs => by have h1 := hf.tx hp40 hn s hs; have h2 := hdl base to (by omega); simp only [fIns]; omega)
        obtain ⟨l', last, e, htk⟩ : ∃ l' last e, takeR l (fIns ps base to) = (l', last, e) := ⟨_, _, _, rfl⟩
        rw [htk] at hcall hf' hkeep
        simp only at hcall hf' hkeep
        have hlen' := hf'.len
        obtain ⟨m', hm'⟩ : ∃ m', l'.length = m' + 1 := ⟨l'.length - 1, by have := List.length_pos_iff.2 hf'.ne; omega⟩
        have hgrow : (l[m]'(by omega)).num ≤ (l'[m']'(by omega)).num := by
          have h1 := last_max hf.rises hm hf.known
          exact last_max hf'.rises hm' (hkeep _ (List.getElem_mem _) h1)
        obtain ⟨b2, hb2, hf2⟩ := hf'.ack hm'
        refine tc_seq (tc_ops ?_)
        refine tl_opo (o_load rfl hSn rfl (Nat.le_of_ble_eq_true rfl) rfl) rfl rfl rfl rfl ?_
        refine tl_call' (as := [recvV l]) (as' := [recvV l]) rfl (frzL_cons (fun n => ⟨_, frz_ok (recvV_closed l)⟩) frzL_nil) (latest_ok l m hm (by omega)) (by simp [norefL, AVal.noref]) rfl rfl rfl rfl ?_
        refine tl_opo (o_move rfl) rfl rfl rfl rfl ?_; refine tl_opo (o_extract rfl rfl) rfl rfl rfl rfl ?_; refine tl_opo (o_extract rfl rfl) rfl rfl rfl rfl ?_; refine tl_opo (o_move rfl) rfl rfl rfl rfl ?_; refine tl_opo (o_move rfl) rfl rfl rfl rfl ?_; refine tl_nil ?_
        have hrt : (encT ps ps.length)[0 + to]? = some [.str (txt ps to)] := by rw [Nat.zero_add]; exact encT_get (by omega)
        have hrb : (encT ps ps.length)[0 + base]? = some [.str (txt ps base)] := by rw [Nat.zero_add]; exact encT_get (by omega)
        refine tc_seq (tc_drawR [none] rfl ?_)
        refine td_op rfl rfl (o_load rfl (get_app (get_app hSn)) rfl (Nat.le_of_ble_eq_true rfl) rfl) ?_
        refine td_op rfl rfl (o_move rfl) ?_; refine td_op rfl rfl (o_move rfl) ?_; refine td_op rfl rfl (o_move rfl) ?_; refine td_op rfl rfl (o_move rfl) ?_; refine td_op rfl rfl (o_move rfl) ?_
        refine td_op rfl rfl (o_iaddr_view rfl rfl (by omega) (get_app (get_app hSb)) rfl) ?_
        refine td_op rfl rfl (o_load rfl (get_app (get_app hSb)) hrt (Nat.le_of_ble_eq_true rfl) rfl) ?_
        refine td_op rfl rfl (o_move rfl) ?_; refine td_op rfl rfl (o_move rfl) ?_
        refine td_op rfl rfl (o_iaddr_view rfl rfl (by simp only; omega) (get_app (get_app hSb)) rfl) ?_
        refine td_op rfl rfl (o_load rfl (get_app (get_app hSb)) hrb (Nat.le_of_ble_eq_true rfl) rfl) ?_
        refine td_op rfl rfl (o_len_str rfl) ?_
        refine td_op rfl rfl (o_sliceFrom rfl rfl (txt_len ps (by omega))) ?_
        rw [txt_drop ps (show base ≤ to by omega)]
        refine td_op rfl rfl (o_build rfl rfl) ?_
        refine td_op rfl rfl (o_callc (as := [recvV l, .agg (fIns ps base to).row]) rfl (by simp [closedL, AVal.closed, Ins.row]) rfl rfl hcall (by simp [norefL, AVal.noref, Ins.row])) ?_
        refine td_op rfl rfl (o_move rfl) ?_; refine td_op rfl rfl (o_extract rfl rfl) ?_; refine td_op rfl rfl (o_extract rfl rfl) ?_; refine td_op rfl rfl (o_extract rfl rfl) ?_
        refine td_op rfl rfl (o_store rfl rfl (get_app (get_app hSn)) rfl rfl rfl rfl (Nat.le_of_ble_eq_true rfl) rfl) ?_
        refine td_nil ?_
        refine ⟨rfl, ?_⟩
        generalize hT : (S ++ [none] ++ [none]).set nx _ = T
        have hTb : T[b]? = some (some ⟨1, encT ps ps.length⟩) := by rw [← hT, set_get, if_neg (fun h => hbn h.1.symm)]; exact get_app (get_app hSb)
        have hTn : T[nx]? = some (some ⟨2, [[ruleV, .imm (encS l')]]⟩) := by rw [← hT, set_get, if_pos ⟨rfl, (List.getElem?_eq_some_iff.1 (get_app (get_app hSn))).1⟩]; rfl
        clear hT hSb hSn
        refine tc_seq (tc_ops ?_)
        refine tl_opo (o_load rfl hTn rfl (Nat.le_of_ble_eq_true rfl) rfl) rfl rfl rfl rfl ?_
        refine tl_call' (as := [recvV l']) (as' := [recvV l']) rfl (frzL_cons (fun n => ⟨_, frz_ok (recvV_closed l')⟩) frzL_nil) (latest_ok l' m' hm' (by omega)) (by simp [norefL, AVal.noref]) rfl rfl rfl rfl ?_
        refine tl_opo (o_move rfl) rfl rfl rfl rfl ?_; refine tl_opo (o_extract rfl rfl) rfl rfl rfl rfl ?_; refine tl_opo (o_extract rfl rfl) rfl rfl rfl rfl ?_; refine tl_opo (o_move rfl) rfl rfl rfl rfl ?_; refine tl_opo (o_move rfl) rfl rfl rfl rfl ?_; refine tl_nil ?_
        refine tc_seq (tc_seq (tc_ops ?_))
        refine tl_opo (o_move rfl) rfl rfl rfl rfl ?_; refine tl_opo (o_move rfl) rfl rfl rfl rfl ?_
        refine tl_opo (o_lss' rfl rfl (t := false) (by simp; omega)) rfl rfl rfl rfl ?_
        refine tl_nil ?_
        refine tc_cond rfl (fun h => nomatch h) (fun _ => tc_skip ?_)
        rw [hb2]
        refine tc_cut (σ := Unit) (fun _ => [(0, .imm (encP ps)), (2, .int .u32 acks), (7, .view b 0 (ps.length + 1) false), (10, .ptr nx 0 0), (11, .int .u64 (base : Int)), (12, .int .i64 (k : Int)), (18, .int .u64 (b2 : Int)), (76, .imm (encK picks)), (77, .int .i64 (encK picks).length), (78, .int .i64 (k : Int))])
          (fun _ S => S[b]? = some (some ⟨1, encT ps ps.length⟩) ∧ S[nx]? = some (some ⟨2, [[ruleV, .imm (encS l')]]⟩)) ?_ ?_
        · refine tc_seq (tc_ops ?_)
          refine tl_opo (o_load rfl (get_app hTn) rfl (Nat.le_of_ble_eq_true rfl) rfl) rfl rfl rfl rfl ?_
          refine tl_call' (as := [recvV l']) (as' := [recvV l']) rfl (frzL_cons (fun n => ⟨_, frz_ok (recvV_closed l')⟩) frzL_nil) (numbers_ok l' (by omega)) (by simp [norefL, AVal.noref]) rfl rfl rfl rfl ?_
          refine tl_opo (o_len_imm rfl) rfl rfl rfl rfl ?_; refine tl_opo (o_move rfl) rfl rfl rfl rfl ?_; refine tl_nil ?_
          refine tc_block (loop_st (σ := Nat) (fun j => l'.length - j) (fun j => [(0, .imm (encP ps)), (2, .int .u32 acks), (7, .view b 0 (ps.length + 1) false), (10, .ptr nx 0 0), (11, .int .u64 (base : Int)), (12, .int .i64 (k : Int)), (18, .int .u64 (b2 : Int)), (76, .imm (encK picks)), (77, .int .i64 (encK picks).length), (78, .int .i64 (k : Int)), (134, .imm (encN (nums l'))), (135, .int .i64 (encN (nums l')).length), (136, .int .i64 (j : Int))])
            (fun j S => j ≤ l'.length ∧ S[b]? = some (some ⟨1, encT ps ps.length⟩) ∧ S[nx]? = some (some ⟨2, [[ruleV, .imm (encS l')]]⟩)) 0 (by (repeat' (first | exact wk_nil | refine wk_cons rfl ?_))) ⟨Nat.zero_le _, get_app (get_app hTb), get_app (get_app hTn)⟩ ?_)
          clear hTb hTn
          rintro j S ⟨hj, hSb, hSn⟩
          refine tc_seq (tc_ops ?_)
          refine tl_opo (o_lss rfl rfl) rfl rfl rfl rfl ?_; refine tl_nil ?_
          refine tc_seq (tc_cond rfl (fun h => tc_skip ?_) (fun h => tc_exit ?_))
          · have hj' : j < l'.length := by simpa using h
            clear h
            obtain ⟨jj, hjj, hje⟩ := hf'.sent _ (List.getElem_mem hj')
            obtain ⟨hfo, hxo⟩ := ofTx_mem hf'.rises (List.getElem_mem hj')
            rw [hje] at hfo hxo
            simp only at hfo hxo
            have hnk : (encN (nums l'))[j]? = some [.int .u64 (jj : Int)] := by rw [encN_get (by simpa using hj')]; simp [nums, hje]
            have hof := of_ok l' (jj : Int) (by omega) hf'.rises
            rw [hfo, hxo] at hof
            have hrj : (encT ps ps.length)[0 + jj]? = some [.str (txt ps jj)] := by rw [Nat.zero_add]; exact encT_get (by omega)
            refine tc_seq (tc_block (tc_seq (tc_ops ?_)))
            refine tl_opo (o_iaddr rfl rfl hnk rfl) rfl rfl rfl rfl ?_
            refine tl_opo (o_loadr rfl (Nat.le_of_ble_eq_true rfl) rfl) rfl rfl rfl rfl ?_; refine tl_opo (o_move rfl) rfl rfl rfl rfl ?_; refine tl_nil ?_
            refine tc_seq (tc_ops ?_)
            refine tl_opo (o_load rfl hSn rfl (Nat.le_of_ble_eq_true rfl) rfl) rfl rfl rfl rfl ?_
            refine tl_opo (o_move rfl) rfl rfl rfl rfl ?_
            refine tl_call' (as := [recvV l', .int .u64 (jj : Int)]) (as' := [recvV l', .int .u64 (jj : Int)]) rfl (frzL_cons (fun n => ⟨_, frz_ok (recvV_closed l')⟩) (frzL_cons (fun n => ⟨_, frz_ok rfl⟩) frzL_nil)) hof (by simp [norefL, AVal.noref]) rfl rfl rfl rfl ?_
            refine tl_opo (o_move rfl) rfl rfl rfl rfl ?_; refine tl_opo (o_extract rfl rfl) rfl rfl rfl rfl ?_; refine tl_opo (o_extract rfl rfl) rfl rfl rfl rfl ?_; refine tl_opo (o_move rfl) rfl rfl rfl rfl ?_; refine tl_opo (o_move rfl) rfl rfl rfl rfl ?_; refine tl_nil ?_
            refine tc_seq (tc_ops ?_)
            refine tl_opo (o_move rfl) rfl rfl rfl rfl ?_; refine tl_opo (o_un rfl rfl) rfl rfl rfl rfl ?_; refine tl_opo (o_move rfl) rfl rfl rfl rfl ?_; refine tl_opo (o_move rfl) rfl rfl rfl rfl ?_; refine tl_opo (o_move rfl) rfl rfl rfl rfl ?_; refine tl_opo (o_move rfl) rfl rfl rfl rfl ?_
            refine tl_opo (o_iaddr_view rfl rfl (by omega) (get_app hSb) rfl) rfl rfl rfl rfl ?_
            refine tl_opo (o_load rfl (get_app hSb) hrj (Nat.le_of_ble_eq_true rfl) rfl) rfl rfl rfl rfl ?_
            refine tl_opo (o_neqS' rfl rfl (t := false) (by simp)) rfl rfl rfl rfl ?_
            refine tl_opo (o_pick rfl rfl rfl) rfl rfl rfl rfl ?_; refine tl_nil ?_
            refine tc_cond rfl (fun h => nomatch h) (fun _ => tc_skip ?_)
            refine tc_ops ?_
            refine tl_opo (o_add rfl rfl (c := ((j + 1 : Nat) : Int)) (by simp) (by omega) (by omega)) rfl rfl rfl rfl ?_
            refine tl_opo (o_move rfl) rfl rfl rfl rfl ?_; refine tl_nil ?_
            exact ⟨j + 1, by omega, by (repeat' (first | exact wk_nil | refine wk_cons rfl ?_)), by omega, get_app hSb, get_app hSn⟩
          · exact ⟨(), by (repeat' (first | exact wk_nil | refine wk_cons rfl ?_)), hSb, hSn⟩
        · clear hTb hTn
          rintro - S ⟨hSb, hSn⟩
          obtain ⟨z, hz⟩ : ∃ z, abin .and (.int .u32 (acks.fdiv (2 ^ min (((k % 32 : Nat) : Int)).toNat IntKind.u32.bits))) (.int .u32 1) = some (.int .u32 z) := ⟨_, rfl⟩
          refine tc_seq (tc_ops ?_)
          refine tl_opo (o_move rfl) rfl rfl rfl rfl ?_; refine tl_opo (o_move rfl) rfl rfl rfl rfl ?_
          refine tl_opo (o_remu (a := k) (b := 32) rfl rfl (by omega)) rfl rfl rfl rfl ?_
          refine tl_opo (o_bin rfl rfl (v := .int .u32 (acks.fdiv (2 ^ min (((k % 32 : Nat) : Int)).toNat IntKind.u32.bits))) (by simp only [abin, isShift, if_true, ashift]; rw [if_neg (by omega)])) rfl rfl rfl rfl ?_
          refine tl_opo (o_bin rfl rfl hz) rfl rfl rfl rfl ?_
          refine tl_opo (o_eql rfl rfl) rfl rfl rfl rfl ?_; refine tl_nil ?_
          refine tc_cond rfl (fun _ => ?_) (fun _ => tc_skip ?_)
          · refine tc_ops ?_
            refine tl_opo (o_move rfl) rfl rfl rfl rfl ?_; refine tl_opo (o_move rfl) rfl rfl rfl rfl ?_; refine tl_nil ?_
            refine tc_ops ?_
            refine tl_opo (o_add rfl rfl (c := ((k + 1 : Nat) : Int)) (by simp) (by omega) (by omega)) rfl rfl rfl rfl ?_
            refine tl_opo (o_move rfl) rfl rfl rfl rfl ?_; refine tl_nil ?_
            exact ⟨(k + 1, l', b2), by simp only; omega, by (repeat' (first | exact wk_nil | refine wk_cons rfl ?_)), by simp only; omega, hf2, hSb, hSn⟩
          · refine tc_ops ?_
            refine tl_opo (o_add rfl rfl (c := ((k + 1 : Nat) : Int)) (by simp) (by omega) (by omega)) rfl rfl rfl rfl ?_
            refine tl_opo (o_move rfl) rfl rfl rfl rfl ?_; refine tl_nil ?_
            exact ⟨(k + 1, l', base), by simp only; omega, by (repeat' (first | exact wk_nil | refine wk_cons rfl ?_)), by simp only; omega, hf', hSb, hSn⟩
      · exact ⟨(l, base), by (repeat' (first | exact wk_nil | refine wk_cons rfl ?_)), hf, hSb, hSn⟩
    · clear hUb hUn
      rintro ⟨l, base⟩ S ⟨hf, hSb, hSn⟩
      simp only at hf hSb hSn
      have hble := hf.base_le
      have hlen := hf.len
      obtain ⟨l2, hl2⟩ := hf.final hpl
      have hcall := take_ok l (fIns ps base ps.length) hf.ne (by omega) hf.rises (fun s hs => by have h1 := hf.tx hp40 hn s hs; have h2 := hdl base ps.length (by omega); simp only [fIns]; omega)
      have hok' : (takeR l (fIns ps base ps.length)).1.length ≤ 8 := by
        have : Ok l 801 := ⟨hf.ne, hf.len, hf.rises, hf.tx hp40 hn⟩
        exact (this.take (fIns ps base ps.length)).len
      obtain ⟨l', last, e, htk⟩ : ∃ l' last e, takeR l (fIns ps base ps.length) = (l', last, e) := ⟨_, _, _, rfl⟩
      rw [htk] at hcall hl2 hok'
      simp only at hcall hl2 hok'
      subst hl2
      refine tc_seq (tc_ops ?_)
      refine tl_opo (o_move rfl) rfl rfl rfl rfl ?_; refine tl_opo (o_len_imm rfl) rfl rfl rfl rfl ?_
      refine tl_opo (o_conv rfl) rfl rfl rfl rfl ?_
      rw [encP_len, wrapu64 (n := (ps.length : Int)) (by omega) (by omega)]
      refine tl_opo (o_move rfl) rfl rfl rfl rfl ?_; refine tl_nil ?_
      have hrt : (encT ps ps.length)[0 + ps.length]? = some [.str (txt ps ps.length)] := by rw [Nat.zero_add]; exact encT_get (by omega)
      have hrb : (encT ps ps.length)[0 + base]? = some [.str (txt ps base)] := by rw [Nat.zero_add]; exact encT_get (by omega)
      refine tc_seq (tc_drawR [none] rfl ?_)
      refine td_op rfl rfl (o_load rfl (get_app hSn) rfl (Nat.le_of_ble_eq_true rfl) rfl) ?_
      refine td_op rfl rfl (o_move rfl) ?_; refine td_op rfl rfl (o_move rfl) ?_; refine td_op rfl rfl (o_move rfl) ?_; refine td_op rfl rfl (o_move rfl) ?_; refine td_op rfl rfl (o_move rfl) ?_
      refine td_op rfl rfl (o_iaddr_view rfl rfl (by omega) (get_app hSb) rfl) ?_
      refine td_op rfl rfl (o_load rfl (get_app hSb) hrt (Nat.le_of_ble_eq_true rfl) rfl) ?_
      refine td_op rfl rfl (o_move rfl) ?_; refine td_op rfl rfl (o_move rfl) ?_
      refine td_op rfl rfl (o_iaddr_view rfl rfl (by omega) (get_app hSb) rfl) ?_
      refine td_op rfl rfl (o_load rfl (get_app hSb) hrb (Nat.le_of_ble_eq_true rfl) rfl) ?_
      refine td_op rfl rfl (o_len_str rfl) ?_
      refine td_op rfl rfl (o_sliceFrom rfl rfl (txt_len ps (by omega))) ?_
      rw [txt_drop ps (show base ≤ ps.length by omega)]
      refine td_op rfl rfl (o_build rfl rfl) ?_
      refine td_op rfl rfl (o_callc (as := [recvV l, .agg (fIns ps base ps.length).row]) rfl (by simp [closedL, AVal.closed, Ins.row]) rfl rfl hcall (by simp [norefL, AVal.noref, Ins.row])) ?_
      refine td_op rfl rfl (o_move rfl) ?_; refine td_op rfl rfl (o_extract rfl rfl) ?_; refine td_op rfl rfl (o_extract rfl rfl) ?_; refine td_op rfl rfl (o_extract rfl rfl) ?_
      refine td_op rfl rfl (o_store rfl rfl (get_app hSn) rfl rfl rfl rfl (Nat.le_of_ble_eq_true rfl) rfl) ?_
      refine td_nil ?_
      refine ⟨rfl, ?_⟩
      generalize hT : (S ++ [none]).set nx _ = T
      have hTb : T[b]? = some (some ⟨1, encT ps ps.length⟩) := by rw [← hT, set_get, if_neg (fun h => hbn h.1.symm)]; exact get_app hSb
      have hTn : T[nx]? = some (some ⟨2, [[ruleV, .imm (encS (l2 ++ [⟨(ps.length : Int), txt ps ps.length⟩]))]]⟩) := by rw [← hT, set_get, if_pos ⟨rfl, (List.getElem?_eq_some_iff.1 (get_app hSn)).1⟩]; rfl
      clear hT hSb hSn
      have hlt := latest_ok (l2 ++ [⟨(ps.length : Int), txt ps ps.length⟩]) l2.length (by simp) (by omega)
      have hg : (l2 ++ [(⟨(ps.length : Int), txt ps ps.length⟩ : Sta)])[l2.length]'(by simp) = ⟨(ps.length : Int), txt ps ps.length⟩ := by simp
      rw [hg] at hlt
      simp only at hlt
      refine tc_seq (tc_ops ?_)
      refine tl_opo (o_load rfl hTn rfl (Nat.le_of_ble_eq_true rfl) rfl) rfl rfl rfl rfl ?_
      refine tl_call' (as := [recvV (l2 ++ [⟨(ps.length : Int), txt ps ps.length⟩])]) (as' := [recvV (l2 ++ [⟨(ps.length : Int), txt ps ps.length⟩])]) rfl (frzL_cons (fun n => ⟨_, frz_ok (recvV_closed _)⟩) frzL_nil) hlt (by simp [norefL, AVal.noref]) rfl rfl rfl rfl ?_
      refine tl_opo (o_move rfl) rfl rfl rfl rfl ?_; refine tl_opo (o_extract rfl rfl) rfl rfl rfl rfl ?_; refine tl_opo (o_extract rfl rfl) rfl rfl rfl rfl ?_; refine tl_opo (o_move rfl) rfl rfl rfl rfl ?_; refine tl_opo (o_move rfl) rfl rfl rfl rfl ?_; refine tl_nil ?_
      refine tc_seq (tc_ops ?_)
      refine tl_opo (o_move rfl) rfl rfl rfl rfl ?_; refine tl_opo (o_move rfl) rfl rfl rfl rfl ?_
      refine tl_opo (o_eql' rfl rfl (t := true) (by simp)) rfl rfl rfl rfl ?_
      refine tl_opo (o_move rfl) rfl rfl rfl rfl ?_; refine tl_opo (o_move rfl) rfl rfl rfl rfl ?_; refine tl_opo (o_move rfl) rfl rfl rfl rfl ?_; refine tl_opo (o_move rfl) rfl rfl rfl rfl ?_
      refine tl_opo (o_iaddr_view rfl rfl (by omega) (get_app hTb) rfl) rfl rfl rfl rfl ?_
      refine tl_opo (o_load rfl (get_app hTb) hrt (Nat.le_of_ble_eq_true rfl) rfl) rfl rfl rfl rfl ?_
      refine tl_opo (o_eqlS' rfl rfl (t := true) (by simp)) rfl rfl rfl rfl ?_
      refine tl_opo (o_pick rfl rfl rfl) rfl rfl rfl rfl ?_; refine tl_opo (o_move rfl) rfl rfl rfl rfl ?_; refine tl_nil ?_
      exact tc_ret (retd rfl ⟨_, frz_ok rfl⟩)

end Go.Eng.Recv

