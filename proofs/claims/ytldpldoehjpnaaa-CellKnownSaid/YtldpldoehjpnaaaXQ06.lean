/- count: how many accesses of each kind there were. -/
import Derived.Test.YtldpldoehjpnaaaXU06
set_option linter.unusedSimpArgs false
set_option linter.unusedVariables false
namespace Go.Am.F06
section
variable {X : Type}

def cC (c : List Int) : List AV := c.map (AV.int .u64)
theorem stepC_five (n : Nat) (es : List Acc) (k a o x : Int) (c0 c1 c2 c3 c4 : Int) : ∃ d0 d1 d2 d3 d4, stepC n es k a o x [c0, c1, c2, c3, c4] = [d0, d1, d2, d3, d4] := by
  unfold stepC
  split
  · exact ⟨_, _, _, _, _, rfl⟩
  · exact ⟨_, _, _, _, _, rfl⟩
theorem playC_five (n : Nat) : ∀ (acts : List Acc), ∃ c0 c1 c2 c3 c4, (playC n acts).2 = [c0, c1, c2, c3, c4] := by
  have : ∀ (acts : List Acc) (p : List Acc × List Int), (∃ c0 c1 c2 c3 c4, p.2 = [c0, c1, c2, c3, c4]) → ∃ c0 c1 c2 c3 c4, (acts.foldl (fun p a => (stepL n p.1 a.kind a.at' a.old a.new, stepC n p.1 a.kind a.at' a.old a.new p.2)) p).2 = [c0, c1, c2, c3, c4] := by
    intro acts
    induction acts with
    | nil => intro p h; exact h
    | cons a acts ih =>
      intro p ⟨c0, c1, c2, c3, c4, h⟩
      rw [List.foldl_cons]
      refine ih _ ?_
      simp only [h]
      exact stepC_five _ _ _ _ _ _ _ _ _ _ _
  exact fun acts => this acts _ ⟨_, _, _, _, _, rfl⟩
theorem playC_ok (n : Nat) : ∀ (acts : List Acc), okE n (playC n acts).1 := by
  have : ∀ (acts : List Acc) (p : List Acc × List Int), okE n p.1 → okE n (acts.foldl (fun p a => (stepL n p.1 a.kind a.at' a.old a.new, stepC n p.1 a.kind a.at' a.old a.new p.2)) p).1 := by
    intro acts
    induction acts with
    | nil => intro p h; exact h
    | cons a acts ih => intro p h; rw [List.foldl_cons]; exact ih _ (stepL_ok h _ _ _ _)
  exact fun acts => this acts _ (fun e he => by cases he)

def CnI (M : Mem X) (nn : Int) (acts : List Acc) (lv : AV) (k : Nat) (e : List AV) (m : Mem X) : Prop := ∃ (i : Nat) (v y6 y7 y8 y9 y10 y11 y12 y13 y14 y15 : AV),
  e = [.int .i64 nn, lv, .ptr M.length 0, .ptr (M.length + 2) 0, .ptr (M.length + 3) 0, .int .i64 i, y6, y7, y8, y9, y10, y11, y12, y13, y14, y15] ∧ k = acts.length - i ∧ i ≤ acts.length ∧ Keep M m ∧ m[M.length]? = some (.cells 5 false (cC [0, 0, 0, 0, 0])) ∧
    m[M.length + 2]? = some (.cells 2 false (bookC (bN nn) v)) ∧ m[M.length + 3]? = some (.cells 5 false (cC (playC (bN nn) (acts.take i)).2)) ∧ SA m false (playC (bN nn) (acts.take i)).1 v

theorem cells_off {m : Mem X} {wr : Bool} {es : List Acc} {v : AV} (h : SA m wr es v) {b sz : Nat} {ro : Bool} {L : List AV} (hb : m[b]? = some (.cells sz ro L)) (hsz : sz ≠ 4) : Off b v := by
  intro q o n c hv h0 hq
  rcases h.2 with ⟨h1, _⟩ | ⟨q2, o2, c2, h1, h2⟩
  · rw [h1] at hv; cases hv
  · rw [h1] at hv; injection hv with e1 e2 e3 e4; subst e1; subst e3; subst hq
    obtain ⟨ro, L, h3, _⟩ := h2 h0
    rw [hb] at h3; injection h3 with h3; injection h3 with h3; exact hsz h3

theorem set_sameX {m : Mem X} {i : Nat} {c : Chunk X} (h : m[i]? = some c) : m.set i c = m := by
  apply List.ext_getElem?
  intro j
  by_cases hj : i = j
  · subst hj; rw [List.getElem?_set_self (List.getElem?_eq_some_iff.1 h).1, h]
  · rw [List.getElem?_set_ne hj]
def Gcnt : List (Nat × AFun X) := [(27, c_ref06_NewBook), (53, c_ref06_Do), (54, c_ref06_Swapped)]
set_option maxHeartbeats 8000000 in
theorem count_run {M : Mem X} {wr : Bool} {nn : Int} {acts : List Acc} {lv : AV} (hlv : SA M wr acts lv) (hl : acts.length ≤ 1000) :
    Fn Gcnt law06_count [.int .i64 nn, lv] M (fun r m' => r = .agg (cC (playC (bN nn) acts).2) ∧ Keep M m') := by
  have a27 : assoc (Gcnt (X := X)) 27 = some c_ref06_NewBook := rfl
  have a53 : assoc (Gcnt (X := X)) 53 = some c_ref06_Do := rfl
  have a54 : assoc (Gcnt (X := X)) 54 = some c_ref06_Swapped := rfl
  generalize Gcnt (X := X) = G at a27 a53 a54 ⊢
  have hlen := hlv.len
  have hnb := Fn_eq (newbook_run (G := []) (m := M ++ [.cells 5 false [.int .u64 0, .int .u64 0, .int .u64 0, .int .u64 0, .int .u64 0]]) nn)
  simp only [List.append_assoc, List.cons_append, List.nil_append] at hnb
  refine Fn_of rfl ?_
  simp (disch := first | assumption | omega | (simp only [List.length_cons, List.length_nil, List.length_set, List.length_append] <;> omega) | (simp only [get_mid, get_mid0, List.cons_append, List.append_assoc, List.getElem?_cons_zero, List.getElem?_cons_succ])) only [law06_count, ek, ↓evW, ↓evQ, evB, evS, evL, List.map, AV.cells, List.all, AV.one, Bool.and_true, Bool.true_and, if_true, ↓thenQ_normal, ↓thenQ_exit, ↓thenQ_ret, ↓blockQ_normal, ↓blockQ_ret, ↓blockQ_exit, ↓CW_true, ↓CW_false, CW_true, CW_false, condT, condF, RQ_some, tupA_one, tupA_two, tupA_nil, Nat.reduceSub, Nat.reduceAdd, Nat.reduceMul, Nat.zero_add, Nat.add_zero, Nat.reduceLeDiff, Nat.reduceEqDiff, eqV, eqAll, fillA, and_self, and_true, true_and, Nat.le_refl, Bool.not_true, Bool.not_false, Bool.false_xor, Bool.true_xor, cond_true, cond_false, List.replicate, if_false, reduceIte, resAll, resA, ne_eq, decide_not, decide_true, decide_false, Int.reduceEq, Bool.not_true, Bool.not_false, not_true_eq_false, not_false_eq_true, cond_bool, cond_int, beq_self_eq_true, Int.reduceBEq, Bool.and_self, Bool.and_false, Bool.false_and, Bool.xor_false, Bool.xor_true, loadN_ldC, ldC_none, ldC_somes, stC_aggs, splice, storeN_stC, stC_int, stC_bool, stC_ptr, stC_nilp, stC_sl, stC_nils, getC_gcO, gcO_cells, W_draw_eq, ↓W_scope, ev_clear, evT, evF, evX, evM, ↓exitQ_normal, ↓exitQ_ret, ↓exitQ_exit, saA_self, saO_self, if_pos, if_neg, wrapI, get_concat, set_concat, Int.toNat_natCast, Int.toNat_zero, List.nil_append, Nat.mul_one, decide_eq_true, decide_eq_false, Int.reduceLE, Int.reduceLT, Int.reduceNeg, Bool.false_or, Bool.true_or, Bool.or_false, Bool.or_true, wrapU, Int.reduceAdd, Int.reduceSub, Int.reduceMul, List.append_assoc, List.length_append, get_mid, get_mid0, set_mid, set_mid0, List.length_set, List.length_cons, List.length_nil, List.cons_append, List.getElem?_append_left, List.set_append_left, get_at, get_at0, set_at, set_at0, List.getElem?_set_self, List.getElem?_set_ne, a27, c_ref06_NewBook, hnb, bookC]
  refine W_loop (CnI M nn acts lv) acts.length (by simp only [FUEL]; omega) ⟨0, .nils, _, _, _, _, _, _, _, _, _, _, rfl, rfl, by omega, Keep.app _ _, by rw [get_mid0]; rfl, by rw [get_mid]; rfl, by rw [get_mid]; rfl, Sl.nil⟩ ?_
  clear hnb
  rintro k e m ⟨i, v, y6, y7, y8, y9, y10, y11, y12, y13, y14, y15, rfl, rfl, hi, hk, g0, g2, g3, sv⟩
  have hlm : M.length + 3 < m.length := (List.getElem?_eq_some_iff.1 g3).1
  have hone := sv.one
  simp only [AV.one] at hone
  simp (disch := first | assumption | omega | (simp only [List.length_cons, List.length_nil, List.length_set, List.length_append] <;> omega) | (simp only [get_mid, get_mid0, List.cons_append, List.append_assoc, List.getElem?_cons_zero, List.getElem?_cons_succ])) only [ek, ↓evW, ↓evQ, evB, evS, evL, List.map, AV.cells, List.all, AV.one, Bool.and_true, Bool.true_and, if_true, ↓thenQ_normal, ↓thenQ_exit, ↓thenQ_ret, ↓blockQ_normal, ↓blockQ_ret, ↓blockQ_exit, ↓CW_true, ↓CW_false, CW_true, CW_false, condT, condF, RQ_some, tupA_one, tupA_two, tupA_nil, Nat.reduceSub, Nat.reduceAdd, Nat.reduceMul, Nat.zero_add, Nat.add_zero, Nat.reduceLeDiff, Nat.reduceEqDiff, eqV, eqAll, fillA, and_self, and_true, true_and, Nat.le_refl, Bool.not_true, Bool.not_false, Bool.false_xor, Bool.true_xor, cond_true, cond_false, List.replicate, if_false, reduceIte, resAll, resA, ne_eq, decide_not, decide_true, decide_false, Int.reduceEq, Bool.not_true, Bool.not_false, not_true_eq_false, not_false_eq_true, cond_bool, cond_int, beq_self_eq_true, Int.reduceBEq, Bool.and_self, Bool.and_false, Bool.false_and, Bool.xor_false, Bool.xor_true, loadN_ldC, ldC_none, ldC_somes, stC_aggs, splice, storeN_stC, stC_int, stC_bool, stC_ptr, stC_nilp, stC_sl, stC_nils, getC_gcO, gcO_cells, W_draw_eq, ↓W_scope, ev_clear, evT, evF, evX, evM, ↓exitQ_normal, ↓exitQ_ret, ↓exitQ_exit, saA_self, saO_self, if_pos, if_neg, wrapI, get_concat, set_concat, Int.toNat_natCast, Int.toNat_zero, List.nil_append, Nat.mul_one, decide_eq_true, decide_eq_false, Int.reduceLE, Int.reduceLT, Int.reduceNeg, Bool.false_or, Bool.true_or, Bool.or_false, Bool.or_true, wrapU, Int.reduceAdd, Int.reduceSub, Int.reduceMul, ev_len, hlen]
  refine CW_of (fun h => ?_) (fun h => ?_)
  · simp only [decide_eq_true_eq] at h
    obtain ⟨⟨k, a, o, x⟩, he⟩ : ∃ e, acts[i]? = some e := ⟨_, List.getElem?_eq_getElem (by omega)⟩
    have hp := playC_take (n := bN nn) he
    have hpl := playC_len (bN nn) (acts.take i)
    have hpo := playC_ok (bN nn) (acts.take i)
    obtain ⟨c0, c1, c2, c3, c4, hc⟩ := playC_five (bN nn) (acts.take i)
    rw [List.length_take] at hpl
    have hlvm : SA m wr acts lv := hlv.keep hk
    obtain ⟨q, oo, cap, ro, L, rfl, b2, b3, b4, b5, b6, b7, b8, b9, b10⟩ := hlvm.get he
    simp only at b7 b8 b9 b10
    have hqm : q < m.length := (List.getElem?_eq_some_iff.1 b2).1
    generalize playC (bN nn) (acts.take i) = p at hp hpl hpo hc g3 sv
    obtain ⟨es, c⟩ := p
    simp only at hc hp hpl hpo g3 sv
    subst hc
    simp only [bookC, cC, List.map] at g0 g2 g3
    have hdo := do_run (sv.keep (Keep.app m [Chunk.cells 2 false [.int .i64 0, .nils], .cells 4 false [.int .i64 0, .int .i64 0, .int .u64 0, .int .u64 0]])) hpo (by omega) k a o x
    simp (disch := first | assumption | omega | (simp only [List.length_cons, List.length_nil, List.length_set, List.length_append] <;> omega) | (simp only [get_mid, get_mid0, List.cons_append, List.append_assoc, List.getElem?_cons_zero, List.getElem?_cons_succ])) only [ek, ↓evW, ↓evQ, evB, evS, evL, List.map, AV.cells, List.all, AV.one, Bool.and_true, Bool.true_and, if_true, ↓thenQ_normal, ↓thenQ_exit, ↓thenQ_ret, ↓blockQ_normal, ↓blockQ_ret, ↓blockQ_exit, ↓CW_true, ↓CW_false, CW_true, CW_false, condT, condF, RQ_some, tupA_one, tupA_two, tupA_nil, Nat.reduceSub, Nat.reduceAdd, Nat.reduceMul, Nat.zero_add, Nat.add_zero, Nat.reduceLeDiff, Nat.reduceEqDiff, eqV, eqAll, fillA, and_self, and_true, true_and, Nat.le_refl, Bool.not_true, Bool.not_false, Bool.false_xor, Bool.true_xor, cond_true, cond_false, List.replicate, if_false, reduceIte, resAll, resA, ne_eq, decide_not, decide_true, decide_false, Int.reduceEq, Bool.not_true, Bool.not_false, not_true_eq_false, not_false_eq_true, cond_bool, cond_int, beq_self_eq_true, Int.reduceBEq, Bool.and_self, Bool.and_false, Bool.false_and, Bool.xor_false, Bool.xor_true, loadN_ldC, ldC_none, ldC_somes, stC_aggs, splice, storeN_stC, stC_int, stC_bool, stC_ptr, stC_nilp, stC_sl, stC_nils, getC_gcO, gcO_cells, W_draw_eq, ↓W_scope, ev_clear, evT, evF, evX, evM, ↓exitQ_normal, ↓exitQ_ret, ↓exitQ_exit, saA_self, saO_self, if_pos, if_neg, wrapI, get_concat, set_concat, Int.toNat_natCast, Int.toNat_zero, List.nil_append, Nat.mul_one, decide_eq_true, decide_eq_false, Int.reduceLE, Int.reduceLT, Int.reduceNeg, Bool.false_or, Bool.true_or, Bool.or_false, Bool.or_true, wrapU, Int.reduceAdd, Int.reduceSub, Int.reduceMul, List.append_assoc, List.length_append, get_mid, get_mid0, set_mid, set_mid0, List.length_set, List.length_cons, List.length_nil, List.cons_append, List.getElem?_append_left, List.set_append_left, get_at, get_at0, set_at, set_at0, List.getElem?_set_self, List.getElem?_set_ne, b2, b7, b8, b9, b10, g2, a53, c_ref06_Do]
    refine OKT_fn hdo ?_
    rintro r m1 ⟨hk1, hcase⟩
    have hl1 : m.length + 2 ≤ m1.length := by have := hk1.1; simpa using this
    have hkm : Keep m m1 := (Keep.app m _).trans hk1
    have h0 := hkm.get g0
    have h2 := hkm.get g2
    have h3 := hkm.get g3
    have b2' := hkm.get b2
    have hq2 : q ≠ M.length + 2 := fun h => by
      rw [h, g2] at b2; injection b2 with b2; injection b2 with b2; cases b2
    have h6 : m1[m.length]? = some (.cells 2 false [.int .i64 0, .nils]) := hk1.get (by rw [get_mid0]; rfl)
    have h7 : m1[m.length + 1]? = some (.cells 4 false [.int .i64 0, .int .i64 0, .int .u64 0, .int .u64 0]) := hk1.get (by rw [get_mid]; rfl)
    have fin : ∀ (r' : List Acc × List Int) (v' : AV) (C1 C2 C4 : List AV) (K M' : Mem X), M' = ((((m1.set m.length (.cells 2 false C1)).set (m.length + 1) (.cells 4 false C2)).set (M.length + 2) (.cells 2 false [.int .i64 (bN nn), v'])).set (M.length + 3) (.cells 5 false C4) ++ K) → SA m1 false r'.1 v' → Off (m.length + 1) v' → playC (bN nn) (acts.take (i + 1)) = r' → C4 = cC r'.2 → ∀ y6 y7 y8 y9 y10 y11 y12 y13 y14 y15 : AV, ∃ k', k' < acts.length - i ∧
        CnI M nn acts (.sl q oo acts.length cap) k' [.int .i64 nn, .sl q oo acts.length cap, .ptr M.length 0, .ptr (M.length + 2) 0, .ptr (M.length + 3) 0, .int .i64 ((i : Int) + 1), y6, y7, y8, y9, y10, y11, y12, y13, y14, y15]
          M' := by
      intro r' v' C1 C2 C4 K M' hM' hsa hoff hr hC y6 y7 y8 y9 y10 y11 y12 y13 y14 y15
      subst hM'
      refine ⟨_, by omega, i + 1, v', _, _, _, _, _, _, _, _, _, _, rfl, rfl, by omega, ?_, ?_, ?_, ?_, ?_⟩
      · exact ((((((hk.trans hkm).set (by omega) _).set (by omega) _).set (by omega) _).set (by omega) _)).trans (Keep.app _ _)
      · rw [List.getElem?_append_left (by simp; omega), List.getElem?_set_ne (by omega), List.getElem?_set_ne (by omega), List.getElem?_set_ne (by omega), List.getElem?_set_ne (by omega)]; exact h0
      · rw [List.getElem?_append_left (by simp; omega), List.getElem?_set_ne (by omega), List.getElem?_set_self (by simp; omega)]; rfl
      · rw [hr, List.getElem?_append_left (by simp; omega), List.getElem?_set_self (by simp; omega), hC]
      · rw [hr]
        have s1 : SA (m1.set m.length (.cells 2 false C1)) false r'.1 v' := (KeepB.at m1 _).off (cells_off hsa h6 (by decide)) hsa
        have s2 : SA ((m1.set m.length (.cells 2 false C1)).set (m.length + 1) (.cells 4 false C2)) false r'.1 v' := (KeepB.at _ _).off hoff s1
        have s3 : SA (((m1.set m.length (.cells 2 false C1)).set (m.length + 1) (.cells 4 false C2)).set (M.length + 2) (.cells 2 false [.int .i64 (bN nn), v'])) false r'.1 v' := (KeepB.at _ _).off (cells_off s2 (by rw [List.getElem?_set_ne (by omega), List.getElem?_set_ne (by omega)]; exact h2) (by decide)) s2
        have s4 : SA ((((m1.set m.length (.cells 2 false C1)).set (m.length + 1) (.cells 4 false C2)).set (M.length + 2) (.cells 2 false [.int .i64 (bN nn), v'])).set (M.length + 3) (.cells 5 false C4)) false r'.1 v' := (KeepB.at _ _).off (cells_off s3 (by rw [List.getElem?_set_ne (by omega), List.getElem?_set_ne (by omega), List.getElem?_set_ne (by omega)]; exact h3) (by decide)) s3
        exact s4.keep (Keep.app _ _)
    rcases hcase with ⟨hd, rfl⟩ | ⟨e, v', hd, rfl, hsa, hf, hnc⟩
    · have hsl : stepL (bN nn) es k a o x = es := by simp only [stepL, hd]
      have hsc : stepC (bN nn) es k a o x [c0, c1, c2, c3, c4] = [c0, c1, c2, c3, c4] := by simp only [stepC, hd]
      rw [hsl, hsc] at hp
      have hal : (accC ⟨0, 0, 0, 0⟩).all AV.one = true := rfl
      have hal2 : (accC ⟨0, 0, 0, 0⟩).length = 4 := rfl
      simp (disch := first | assumption | omega | (simp only [List.length_cons, List.length_nil, List.length_set, List.length_append] <;> omega) | (simp only [get_mid, get_mid0, List.cons_append, List.append_assoc, List.getElem?_cons_zero, List.getElem?_cons_succ])) only [ek, ↓evW, ↓evQ, evB, evS, evL, List.map, AV.cells, List.all, AV.one, Bool.and_true, Bool.true_and, if_true, ↓thenQ_normal, ↓thenQ_exit, ↓thenQ_ret, ↓blockQ_normal, ↓blockQ_ret, ↓blockQ_exit, ↓CW_true, ↓CW_false, CW_true, CW_false, condT, condF, RQ_some, tupA_one, tupA_two, tupA_nil, Nat.reduceSub, Nat.reduceAdd, Nat.reduceMul, Nat.zero_add, Nat.add_zero, Nat.reduceLeDiff, Nat.reduceEqDiff, eqV, eqAll, fillA, and_self, and_true, true_and, Nat.le_refl, Bool.not_true, Bool.not_false, Bool.false_xor, Bool.true_xor, cond_true, cond_false, List.replicate, if_false, reduceIte, resAll, resA, ne_eq, decide_not, decide_true, decide_false, Int.reduceEq, Bool.not_true, Bool.not_false, not_true_eq_false, not_false_eq_true, cond_bool, cond_int, beq_self_eq_true, Int.reduceBEq, Bool.and_self, Bool.and_false, Bool.false_and, Bool.xor_false, Bool.xor_true, loadN_ldC, ldC_none, ldC_somes, stC_aggs, splice, storeN_stC, stC_int, stC_bool, stC_ptr, stC_nilp, stC_sl, stC_nils, getC_gcO, gcO_cells, W_draw_eq, ↓W_scope, ev_clear, evT, evF, evX, evM, ↓exitQ_normal, ↓exitQ_ret, ↓exitQ_exit, saA_self, saO_self, if_pos, if_neg, wrapI, get_concat, set_concat, Int.toNat_natCast, Int.toNat_zero, List.nil_append, Nat.mul_one, decide_eq_true, decide_eq_false, Int.reduceLE, Int.reduceLT, Int.reduceNeg, Bool.false_or, Bool.true_or, Bool.or_false, Bool.or_true, wrapU, Int.reduceAdd, Int.reduceSub, Int.reduceMul, List.append_assoc, List.length_append, get_mid, get_mid0, set_mid, set_mid0, List.length_set, List.length_cons, List.length_nil, List.cons_append, List.getElem?_append_left, List.set_append_left, get_at, get_at0, set_at, set_at0, List.getElem?_set_self, List.getElem?_set_ne, bookC, hone, hal, hal2, h6, h7, h2]
      refine fin _ v [.int .i64 (bN nn), v] (accC ⟨0, 0, 0, 0⟩) _ [] _ ?_ ((sv.keep hkm).ro) (sl_off sv (by omega)) hp rfl _ _ _ _ _ _ _ _ _ _
      have hX : (((m1.set m.length (.cells 2 false [.int .i64 (bN nn), v])).set (m.length + 1) (.cells 4 false (accC ⟨0, 0, 0, 0⟩))).set (M.length + 2) (.cells 2 false [.int .i64 (bN nn), v]))[M.length + 3]? = some (.cells 5 false (cC [c0, c1, c2, c3, c4])) := by
        rw [List.getElem?_set_ne (by omega), List.getElem?_set_ne (by omega), List.getElem?_set_ne (by omega)]; exact h3
      exact ((List.append_nil _).trans (set_sameX hX)).symm
    · have hin : 1 ≤ k ∧ k ≤ 4 ∧ 0 ≤ a ∧ a < (bN nn : Int) ∧ e.kind = k := by
        unfold doE at hd; split at hd
        · cases hd
        · rename_i h
          injection hd with hd; subst hd
          exact ⟨by omega, by omega, by omega, by omega, rfl⟩
      obtain ⟨i1, i2, i3, i4, hek⟩ := hin
      have hsl : stepL (bN nn) es k a o x = es ++ [e] := by simp only [stepL, hd]
      have hsc : stepC (bN nn) es k a o x [c0, c1, c2, c3, c4] = cntB k (decide (e.old = o)) [c0, c1, c2, c3, c4] := by simp only [stepC, hd, hek]
      rw [hsl, hsc] at hp
      have hal : (accC e).all AV.one = true := rfl
      have hal2 : (accC e).length = 4 := rfl
      have hone' := hsa.one
      simp only [AV.one] at hone'
      have hoff : Off (m.length + 1) v' := by
        intro q' o' n' c' h h0
        rcases hf with hf | ⟨_, _, _, _, hf, hq⟩
        · rw [hf] at h; cases h
        · rw [hf] at h; injection h with e1; subst e1; simp at hq; omega
      have hg0 : (accC e)[0]? = some (.int .i64 k) := by rw [← hek]; rfl
      have htk : (accC e).take 4 = accC e := rfl
      have hsw := fun (m : Mem X) => Fn_eq (swap_run (G := []) (m := m) e o)
      clear hd hdo
      rcases (show k = 1 ∨ k = 2 ∨ k = 3 ∨ k = 4 by omega) with rfl | rfl | rfl | rfl
      · simp (disch := first | assumption | omega | (simp only [List.length_cons, List.length_nil, List.length_set, List.length_append] <;> omega) | (simp only [get_mid, get_mid0, List.cons_append, List.append_assoc, List.getElem?_cons_zero, List.getElem?_cons_succ])) only [ek, ↓evW, ↓evQ, evB, evS, evL, List.map, AV.cells, List.all, AV.one, Bool.and_true, Bool.true_and, if_true, ↓thenQ_normal, ↓thenQ_exit, ↓thenQ_ret, ↓blockQ_normal, ↓blockQ_ret, ↓blockQ_exit, ↓CW_true, ↓CW_false, CW_true, CW_false, condT, condF, RQ_some, tupA_one, tupA_two, tupA_nil, Nat.reduceSub, Nat.reduceAdd, Nat.reduceMul, Nat.zero_add, Nat.add_zero, Nat.reduceLeDiff, Nat.reduceEqDiff, eqV, eqAll, fillA, and_self, and_true, true_and, Nat.le_refl, Bool.not_true, Bool.not_false, Bool.false_xor, Bool.true_xor, cond_true, cond_false, List.replicate, if_false, reduceIte, resAll, resA, ne_eq, decide_not, decide_true, decide_false, Int.reduceEq, Bool.not_true, Bool.not_false, not_true_eq_false, not_false_eq_true, cond_bool, cond_int, beq_self_eq_true, Int.reduceBEq, Bool.and_self, Bool.and_false, Bool.false_and, Bool.xor_false, Bool.xor_true, loadN_ldC, ldC_none, ldC_somes, stC_aggs, splice, storeN_stC, stC_int, stC_bool, stC_ptr, stC_nilp, stC_sl, stC_nils, getC_gcO, gcO_cells, W_draw_eq, ↓W_scope, ev_clear, evT, evF, evX, evM, ↓exitQ_normal, ↓exitQ_ret, ↓exitQ_exit, saA_self, saO_self, if_pos, if_neg, wrapI, get_concat, set_concat, Int.toNat_natCast, Int.toNat_zero, List.nil_append, Nat.mul_one, decide_eq_true, decide_eq_false, Int.reduceLE, Int.reduceLT, Int.reduceNeg, Bool.false_or, Bool.true_or, Bool.or_false, Bool.or_true, wrapU, Int.reduceAdd, Int.reduceSub, Int.reduceMul, List.append_assoc, List.length_append, get_mid, get_mid0, set_mid, set_mid0, List.length_set, List.length_cons, List.length_nil, List.cons_append, List.getElem?_append_left, List.set_append_left, get_at, get_at0, set_at, set_at0, List.getElem?_set_self, List.getElem?_set_ne, bookC, hone', hal, hal2, h6, h7, h2, h3, hg0]
        exact fin _ v' _ _ _ [] _ (List.append_nil _).symm hsa.ro hoff hp (by simp [cC, cntB]) _ _ _ _ _ _ _ _ _ _
      · simp (disch := first | assumption | omega | (simp only [List.length_cons, List.length_nil, List.length_set, List.length_append] <;> omega) | (simp only [get_mid, get_mid0, List.cons_append, List.append_assoc, List.getElem?_cons_zero, List.getElem?_cons_succ])) only [ek, ↓evW, ↓evQ, evB, evS, evL, List.map, AV.cells, List.all, AV.one, Bool.and_true, Bool.true_and, if_true, ↓thenQ_normal, ↓thenQ_exit, ↓thenQ_ret, ↓blockQ_normal, ↓blockQ_ret, ↓blockQ_exit, ↓CW_true, ↓CW_false, CW_true, CW_false, condT, condF, RQ_some, tupA_one, tupA_two, tupA_nil, Nat.reduceSub, Nat.reduceAdd, Nat.reduceMul, Nat.zero_add, Nat.add_zero, Nat.reduceLeDiff, Nat.reduceEqDiff, eqV, eqAll, fillA, and_self, and_true, true_and, Nat.le_refl, Bool.not_true, Bool.not_false, Bool.false_xor, Bool.true_xor, cond_true, cond_false, List.replicate, if_false, reduceIte, resAll, resA, ne_eq, decide_not, decide_true, decide_false, Int.reduceEq, Bool.not_true, Bool.not_false, not_true_eq_false, not_false_eq_true, cond_bool, cond_int, beq_self_eq_true, Int.reduceBEq, Bool.and_self, Bool.and_false, Bool.false_and, Bool.xor_false, Bool.xor_true, loadN_ldC, ldC_none, ldC_somes, stC_aggs, splice, storeN_stC, stC_int, stC_bool, stC_ptr, stC_nilp, stC_sl, stC_nils, getC_gcO, gcO_cells, W_draw_eq, ↓W_scope, ev_clear, evT, evF, evX, evM, ↓exitQ_normal, ↓exitQ_ret, ↓exitQ_exit, saA_self, saO_self, if_pos, if_neg, wrapI, get_concat, set_concat, Int.toNat_natCast, Int.toNat_zero, List.nil_append, Nat.mul_one, decide_eq_true, decide_eq_false, Int.reduceLE, Int.reduceLT, Int.reduceNeg, Bool.false_or, Bool.true_or, Bool.or_false, Bool.or_true, wrapU, Int.reduceAdd, Int.reduceSub, Int.reduceMul, List.append_assoc, List.length_append, get_mid, get_mid0, set_mid, set_mid0, List.length_set, List.length_cons, List.length_nil, List.cons_append, List.getElem?_append_left, List.set_append_left, get_at, get_at0, set_at, set_at0, List.getElem?_set_self, List.getElem?_set_ne, bookC, hone', hal, hal2, h6, h7, h2, h3, hg0]
        exact fin _ v' _ _ _ [] _ (List.append_nil _).symm hsa.ro hoff hp (by simp [cC, cntB]) _ _ _ _ _ _ _ _ _ _
      · by_cases hwo : e.old = o
        · have hwo' : decide (e.old = o) = true := decide_eq_true hwo
          have hk3 : decide (e.kind = 3) = true := decide_eq_true hek
          simp only [hwo', hk3, Bool.and_self] at hsw
          rw [hwo'] at hp
          simp (disch := first | assumption | omega | (simp only [List.length_cons, List.length_nil, List.length_set, List.length_append] <;> omega) | (simp only [get_mid, get_mid0, List.cons_append, List.append_assoc, List.getElem?_cons_zero, List.getElem?_cons_succ])) only [ek, ↓evW, ↓evQ, evB, evS, evL, List.map, AV.cells, List.all, AV.one, Bool.and_true, Bool.true_and, if_true, ↓thenQ_normal, ↓thenQ_exit, ↓thenQ_ret, ↓blockQ_normal, ↓blockQ_ret, ↓blockQ_exit, ↓CW_true, ↓CW_false, CW_true, CW_false, condT, condF, RQ_some, tupA_one, tupA_two, tupA_nil, Nat.reduceSub, Nat.reduceAdd, Nat.reduceMul, Nat.zero_add, Nat.add_zero, Nat.reduceLeDiff, Nat.reduceEqDiff, eqV, eqAll, fillA, and_self, and_true, true_and, Nat.le_refl, Bool.not_true, Bool.not_false, Bool.false_xor, Bool.true_xor, cond_true, cond_false, List.replicate, if_false, reduceIte, resAll, resA, ne_eq, decide_not, decide_true, decide_false, Int.reduceEq, Bool.not_true, Bool.not_false, not_true_eq_false, not_false_eq_true, cond_bool, cond_int, beq_self_eq_true, Int.reduceBEq, Bool.and_self, Bool.and_false, Bool.false_and, Bool.xor_false, Bool.xor_true, loadN_ldC, ldC_none, ldC_somes, stC_aggs, splice, storeN_stC, stC_int, stC_bool, stC_ptr, stC_nilp, stC_sl, stC_nils, getC_gcO, gcO_cells, W_draw_eq, ↓W_scope, ev_clear, evT, evF, evX, evM, ↓exitQ_normal, ↓exitQ_ret, ↓exitQ_exit, saA_self, saO_self, if_pos, if_neg, wrapI, get_concat, set_concat, Int.toNat_natCast, Int.toNat_zero, List.nil_append, Nat.mul_one, decide_eq_true, decide_eq_false, Int.reduceLE, Int.reduceLT, Int.reduceNeg, Bool.false_or, Bool.true_or, Bool.or_false, Bool.or_true, wrapU, Int.reduceAdd, Int.reduceSub, Int.reduceMul, List.append_assoc, List.length_append, get_mid, get_mid0, set_mid, set_mid0, List.length_set, List.length_cons, List.length_nil, List.cons_append, List.getElem?_append_left, List.set_append_left, get_at, get_at0, set_at, set_at0, List.getElem?_set_self, List.getElem?_set_ne, List.append_nil, bookC, hone', hal, hal2, h6, h7, h2, h3, hg0, b2', b9, a54, c_ref06_Swapped, hsw, htk]
          refine fin _ v' _ _ _ _ _ rfl hsa.ro hoff hp ?_ _ _ _ _ _ _ _ _ _ _
          simp [cC, cntB]
        · have hwo' : decide (e.old = o) = false := decide_eq_false hwo
          have hk3 : decide (e.kind = 3) = true := decide_eq_true hek
          simp only [hwo', hk3, Bool.and_false] at hsw
          rw [hwo'] at hp
          simp (disch := first | assumption | omega | (simp only [List.length_cons, List.length_nil, List.length_set, List.length_append] <;> omega) | (simp only [get_mid, get_mid0, List.cons_append, List.append_assoc, List.getElem?_cons_zero, List.getElem?_cons_succ])) only [ek, ↓evW, ↓evQ, evB, evS, evL, List.map, AV.cells, List.all, AV.one, Bool.and_true, Bool.true_and, if_true, ↓thenQ_normal, ↓thenQ_exit, ↓thenQ_ret, ↓blockQ_normal, ↓blockQ_ret, ↓blockQ_exit, ↓CW_true, ↓CW_false, CW_true, CW_false, condT, condF, RQ_some, tupA_one, tupA_two, tupA_nil, Nat.reduceSub, Nat.reduceAdd, Nat.reduceMul, Nat.zero_add, Nat.add_zero, Nat.reduceLeDiff, Nat.reduceEqDiff, eqV, eqAll, fillA, and_self, and_true, true_and, Nat.le_refl, Bool.not_true, Bool.not_false, Bool.false_xor, Bool.true_xor, cond_true, cond_false, List.replicate, if_false, reduceIte, resAll, resA, ne_eq, decide_not, decide_true, decide_false, Int.reduceEq, Bool.not_true, Bool.not_false, not_true_eq_false, not_false_eq_true, cond_bool, cond_int, beq_self_eq_true, Int.reduceBEq, Bool.and_self, Bool.and_false, Bool.false_and, Bool.xor_false, Bool.xor_true, loadN_ldC, ldC_none, ldC_somes, stC_aggs, splice, storeN_stC, stC_int, stC_bool, stC_ptr, stC_nilp, stC_sl, stC_nils, getC_gcO, gcO_cells, W_draw_eq, ↓W_scope, ev_clear, evT, evF, evX, evM, ↓exitQ_normal, ↓exitQ_ret, ↓exitQ_exit, saA_self, saO_self, if_pos, if_neg, wrapI, get_concat, set_concat, Int.toNat_natCast, Int.toNat_zero, List.nil_append, Nat.mul_one, decide_eq_true, decide_eq_false, Int.reduceLE, Int.reduceLT, Int.reduceNeg, Bool.false_or, Bool.true_or, Bool.or_false, Bool.or_true, wrapU, Int.reduceAdd, Int.reduceSub, Int.reduceMul, List.append_assoc, List.length_append, get_mid, get_mid0, set_mid, set_mid0, List.length_set, List.length_cons, List.length_nil, List.cons_append, List.getElem?_append_left, List.set_append_left, get_at, get_at0, set_at, set_at0, List.getElem?_set_self, List.getElem?_set_ne, List.append_nil, bookC, hone', hal, hal2, h6, h7, h2, h3, hg0, b2', b9, a54, c_ref06_Swapped, hsw, htk]
          refine fin _ v' _ _ _ _ _ rfl hsa.ro hoff hp ?_ _ _ _ _ _ _ _ _ _ _
          simp [cC, cntB]
      · simp (disch := first | assumption | omega | (simp only [List.length_cons, List.length_nil, List.length_set, List.length_append] <;> omega) | (simp only [get_mid, get_mid0, List.cons_append, List.append_assoc, List.getElem?_cons_zero, List.getElem?_cons_succ])) only [ek, ↓evW, ↓evQ, evB, evS, evL, List.map, AV.cells, List.all, AV.one, Bool.and_true, Bool.true_and, if_true, ↓thenQ_normal, ↓thenQ_exit, ↓thenQ_ret, ↓blockQ_normal, ↓blockQ_ret, ↓blockQ_exit, ↓CW_true, ↓CW_false, CW_true, CW_false, condT, condF, RQ_some, tupA_one, tupA_two, tupA_nil, Nat.reduceSub, Nat.reduceAdd, Nat.reduceMul, Nat.zero_add, Nat.add_zero, Nat.reduceLeDiff, Nat.reduceEqDiff, eqV, eqAll, fillA, and_self, and_true, true_and, Nat.le_refl, Bool.not_true, Bool.not_false, Bool.false_xor, Bool.true_xor, cond_true, cond_false, List.replicate, if_false, reduceIte, resAll, resA, ne_eq, decide_not, decide_true, decide_false, Int.reduceEq, Bool.not_true, Bool.not_false, not_true_eq_false, not_false_eq_true, cond_bool, cond_int, beq_self_eq_true, Int.reduceBEq, Bool.and_self, Bool.and_false, Bool.false_and, Bool.xor_false, Bool.xor_true, loadN_ldC, ldC_none, ldC_somes, stC_aggs, splice, storeN_stC, stC_int, stC_bool, stC_ptr, stC_nilp, stC_sl, stC_nils, getC_gcO, gcO_cells, W_draw_eq, ↓W_scope, ev_clear, evT, evF, evX, evM, ↓exitQ_normal, ↓exitQ_ret, ↓exitQ_exit, saA_self, saO_self, if_pos, if_neg, wrapI, get_concat, set_concat, Int.toNat_natCast, Int.toNat_zero, List.nil_append, Nat.mul_one, decide_eq_true, decide_eq_false, Int.reduceLE, Int.reduceLT, Int.reduceNeg, Bool.false_or, Bool.true_or, Bool.or_false, Bool.or_true, wrapU, Int.reduceAdd, Int.reduceSub, Int.reduceMul, List.append_assoc, List.length_append, get_mid, get_mid0, set_mid, set_mid0, List.length_set, List.length_cons, List.length_nil, List.cons_append, List.getElem?_append_left, List.set_append_left, get_at, get_at0, set_at, set_at0, List.getElem?_set_self, List.getElem?_set_ne, bookC, hone', hal, hal2, h6, h7, h2, h3, hg0]
        exact fin _ v' _ _ _ [] _ (List.append_nil _).symm hsa.ro hoff hp (by simp [cC, cntB]) _ _ _ _ _ _ _ _ _ _
  · simp only [decide_eq_false_iff_not] at h
    have hie : i = acts.length := by omega
    subst hie
    rw [List.take_length] at g3 sv
    obtain ⟨c0, c1, c2, c3, c4, hc⟩ := playC_five (bN nn) acts
    rw [hc] at g3
    simp only [cC, List.map] at g0 g3
    simp (disch := first | assumption | omega | (simp only [List.length_cons, List.length_nil, List.length_set, List.length_append] <;> omega) | (simp only [get_mid, get_mid0, List.cons_append, List.append_assoc, List.getElem?_cons_zero, List.getElem?_cons_succ])) only [ek, ↓evW, ↓evQ, evB, evS, evL, List.map, AV.cells, List.all, AV.one, Bool.and_true, Bool.true_and, if_true, ↓thenQ_normal, ↓thenQ_exit, ↓thenQ_ret, ↓blockQ_normal, ↓blockQ_ret, ↓blockQ_exit, ↓CW_true, ↓CW_false, CW_true, CW_false, condT, condF, RQ_some, tupA_one, tupA_two, tupA_nil, Nat.reduceSub, Nat.reduceAdd, Nat.reduceMul, Nat.zero_add, Nat.add_zero, Nat.reduceLeDiff, Nat.reduceEqDiff, eqV, eqAll, fillA, and_self, and_true, true_and, Nat.le_refl, Bool.not_true, Bool.not_false, Bool.false_xor, Bool.true_xor, cond_true, cond_false, List.replicate, if_false, reduceIte, resAll, resA, ne_eq, decide_not, decide_true, decide_false, Int.reduceEq, Bool.not_true, Bool.not_false, not_true_eq_false, not_false_eq_true, cond_bool, cond_int, beq_self_eq_true, Int.reduceBEq, Bool.and_self, Bool.and_false, Bool.false_and, Bool.xor_false, Bool.xor_true, loadN_ldC, ldC_none, ldC_somes, stC_aggs, splice, storeN_stC, stC_int, stC_bool, stC_ptr, stC_nilp, stC_sl, stC_nils, getC_gcO, gcO_cells, W_draw_eq, ↓W_scope, ev_clear, evT, evF, evX, evM, ↓exitQ_normal, ↓exitQ_ret, ↓exitQ_exit, saA_self, saO_self, if_pos, if_neg, wrapI, get_concat, set_concat, Int.toNat_natCast, Int.toNat_zero, List.nil_append, Nat.mul_one, decide_eq_true, decide_eq_false, Int.reduceLE, Int.reduceLT, Int.reduceNeg, Bool.false_or, Bool.true_or, Bool.or_false, Bool.or_true, wrapU, Int.reduceAdd, Int.reduceSub, Int.reduceMul, List.append_assoc, List.length_append, get_mid, get_mid0, set_mid, set_mid0, List.length_set, List.length_cons, List.length_nil, List.cons_append, List.getElem?_append_left, List.set_append_left, get_at, get_at0, set_at, set_at0, List.getElem?_set_self, List.getElem?_set_ne, g3, g0]
    rw [hc]
    exact ⟨rfl, hk.set (Nat.le_refl _) _⟩
end
end Go.Am.F06
