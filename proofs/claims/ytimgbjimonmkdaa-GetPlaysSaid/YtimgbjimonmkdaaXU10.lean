import Derived.Test.YtimgbjimonmkdaaXT10
set_option linter.unusedSimpArgs false
set_option linter.unusedVariables false
namespace Go.Am.F10
variable {X : Type}
theorem right_eq (m : Mem X) (c : Cf) : c_conf_Config_Right [.agg (cfC c)] m = some (.bool (decide (rightP c)), m ++ [.cells 6 false (cfC c)]) := Fn_eq (right_run c)
def slotA (c : Cf) (p i : Int) : Int := if rightP c then addrA c p (6 + i % c.q) else -1
def cellsN (c : Cf) : Nat := if rightP c then (4 + c.n * (6 + c.q)).toNat else 0
theorem cells_b {c : Cf} (h : rightP c) : (cellsN c : Int) = 4 + c.n * (6 + c.q) ∧ cellsN c ≤ 600 := by
  have hq : 2 ≤ c.q ∧ c.q ≤ 64 := by have := h.2.1; unfold roomP at this; omega
  have hn := h.1
  have hm : 0 ≤ c.n * (6 + c.q) ∧ c.n * (6 + c.q) ≤ 560 := by
    have h5 : c.n * (6 + c.q) ≤ 8 * 70 := Int.mul_le_mul hn.2 (by omega) (by omega) (by omega)
    exact ⟨Int.mul_nonneg (by omega) (by omega), by omega⟩
  unfold cellsN; rw [if_pos h]; omega
theorem cellsN_le (c : Cf) : cellsN c ≤ 600 := by
  by_cases h : rightP c
  · exact (cells_b h).2
  · unfold cellsN; rw [if_neg h]; omega
theorem addr_b {c : Cf} {p i : Int} (h : thereP c p) (h0 : 0 ≤ i) (h1 : i < 6 + c.q) : 0 ≤ addrA c p i ∧ addrA c p i < cellsN c := by
  have hb := there_bounds h
  have hc := (cells_b h.1).1
  have hm := mul_bounds hb.2.2.2.2.1 hb.2.2.2.2.2 (q := 6 + c.q) (by omega) (by omega)
  have h2 : (p + 1) * (6 + c.q) ≤ c.n * (6 + c.q) := Int.mul_le_mul_of_nonneg_right (by have := h.2.2; omega) (by omega)
  have h3 : (p + 1) * (6 + c.q) = p * (6 + c.q) + (6 + c.q) := by rw [Int.add_mul, Int.one_mul]
  unfold addrA; rw [if_pos h]; omega
theorem slot_b {c : Cf} {p i : Int} (h : thereP c p) (h0 : 0 ≤ i) : 0 ≤ slotA c p i ∧ slotA c p i < cellsN c := by
  have hb := there_bounds h
  have h1 := Int.emod_nonneg i (b := c.q) (by omega)
  have h2 := Int.emod_lt_of_pos i (b := c.q) (by omega)
  unfold slotA; rw [if_pos h.1]
  exact addr_b h (by omega) (by omega)
set_option maxHeartbeats 4000000 in
theorem cells_eq (m : Mem X) (c : Cf) : ∃ J, c_conf_Config_Cells [.agg (cfC c)] m = some (.int .i64 (cellsN c), m ++ J) := by
  have a157 : assoc [(157, c_conf_Config_Right (X := X))] 157 = some c_conf_Config_Right := rfl
  have he : c_conf_Config_Cells (X := X) = amFunc [(157, c_conf_Config_Right)] conf_Config_Cells := rfl
  rw [he]
  generalize [(157, c_conf_Config_Right (X := X))] = G at a157 ⊢
  have hR := right_eq (m ++ [.cells 6 false (cfC c)]) c
  refine ⟨[.cells 6 false (cfC c), .cells 6 false (cfC c)], Fn_eq (Fn_of rfl ?_)⟩
  by_cases hr : rightP c
  · rw [decide_eq_true hr] at hR
    have hq : 2 ≤ c.q ∧ c.q ≤ 64 := by have := hr.2.1; unfold roomP at this; omega
    have hb := cells_b hr
    have e1 : IntKind.i64.wrap (6 + c.q) = 6 + c.q := wrapI (by omega) (by omega)
    have e2 : IntKind.i64.wrap (c.n * (6 + c.q)) = c.n * (6 + c.q) := wrapI (by omega) (by omega)
    have e3 : IntKind.i64.wrap (4 + c.n * (6 + c.q)) = (cellsN c : Int) := by rw [wrapI (by omega) (by omega)]; exact hb.1.symm
    simp only [cfC, List.append_assoc, List.cons_append, List.nil_append] at hR
    simp (disch := first | assumption | omega | (simp only [List.length_cons, List.length_nil, List.length_set, List.length_append] <;> omega) | (simp only [get_mid, get_mid0, List.cons_append, List.append_assoc, List.getElem?_cons_zero, List.getElem?_cons_succ])) only [conf_Config_Cells, ek, ↓evW, ↓evQ, evB, evS, evL, List.map, AV.cells, List.all, AV.one, Bool.and_true, Bool.true_and, if_true, ↓thenQ_normal, ↓thenQ_exit, ↓thenQ_ret, ↓blockQ_normal, ↓blockQ_ret, ↓blockQ_exit, ↓CW_true, ↓CW_false, CW_true, CW_false, condT, condF, RQ_some, tupA_one, tupA_two, tupA_nil, Nat.reduceSub, Nat.reduceAdd, Nat.reduceMul, Nat.zero_add, Nat.add_zero, Nat.reduceLeDiff, Nat.reduceEqDiff, eqV, eqAll, fillA, and_self, and_true, true_and, Nat.le_refl, Bool.not_true, Bool.not_false, Bool.false_xor, Bool.true_xor, cond_true, cond_false, List.replicate, if_false, reduceIte, resAll, resA, ne_eq, decide_not, decide_true, decide_false, Int.reduceEq, Bool.not_true, Bool.not_false, not_true_eq_false, not_false_eq_true, cond_bool, cond_int, beq_self_eq_true, Int.reduceBEq, Bool.and_self, Bool.and_false, Bool.false_and, Bool.xor_false, Bool.xor_true, loadN_ldC, ldC_none, ldC_somes, stC_aggs, splice, storeN_stC, stC_int, stC_bool, stC_ptr, stC_nilp, stC_sl, stC_nils, getC_gcO, gcO_cells, W_draw_eq, ↓W_scope, ev_clear, evT, evF, evX, evM, ↓exitQ_normal, ↓exitQ_ret, ↓exitQ_exit, saA_self, saO_self, if_pos, if_neg, wrapI, get_concat, set_concat, Int.toNat_natCast, Int.toNat_zero, List.nil_append, Nat.mul_one, decide_eq_true, decide_eq_false, Int.reduceLE, Int.reduceLT, Int.reduceNeg, Bool.false_or, Bool.true_or, Bool.or_false, Bool.or_true, wrapU, Int.reduceAdd, Int.reduceSub, Int.reduceMul, List.append_assoc, List.length_append, get_mid, get_mid0, set_mid, set_mid0, List.length_set, List.length_cons, List.length_nil, List.cons_append, List.getElem?_append_left, List.set_append_left, get_at, get_at0, set_at, set_at0, List.getElem?_set_self, List.getElem?_set_ne, cfC, a157, hR, e1, e2, e3]
  · rw [decide_eq_false hr] at hR
    have hz : (cellsN c : Int) = 0 := by unfold cellsN; rw [if_neg hr]; rfl
    simp only [cfC, List.append_assoc, List.cons_append, List.nil_append] at hR
    simp (disch := first | assumption | omega | (simp only [List.length_cons, List.length_nil, List.length_set, List.length_append] <;> omega) | (simp only [get_mid, get_mid0, List.cons_append, List.append_assoc, List.getElem?_cons_zero, List.getElem?_cons_succ])) only [conf_Config_Cells, ek, ↓evW, ↓evQ, evB, evS, evL, List.map, AV.cells, List.all, AV.one, Bool.and_true, Bool.true_and, if_true, ↓thenQ_normal, ↓thenQ_exit, ↓thenQ_ret, ↓blockQ_normal, ↓blockQ_ret, ↓blockQ_exit, ↓CW_true, ↓CW_false, CW_true, CW_false, condT, condF, RQ_some, tupA_one, tupA_two, tupA_nil, Nat.reduceSub, Nat.reduceAdd, Nat.reduceMul, Nat.zero_add, Nat.add_zero, Nat.reduceLeDiff, Nat.reduceEqDiff, eqV, eqAll, fillA, and_self, and_true, true_and, Nat.le_refl, Bool.not_true, Bool.not_false, Bool.false_xor, Bool.true_xor, cond_true, cond_false, List.replicate, if_false, reduceIte, resAll, resA, ne_eq, decide_not, decide_true, decide_false, Int.reduceEq, Bool.not_true, Bool.not_false, not_true_eq_false, not_false_eq_true, cond_bool, cond_int, beq_self_eq_true, Int.reduceBEq, Bool.and_self, Bool.and_false, Bool.false_and, Bool.xor_false, Bool.xor_true, loadN_ldC, ldC_none, ldC_somes, stC_aggs, splice, storeN_stC, stC_int, stC_bool, stC_ptr, stC_nilp, stC_sl, stC_nils, getC_gcO, gcO_cells, W_draw_eq, ↓W_scope, ev_clear, evT, evF, evX, evM, ↓exitQ_normal, ↓exitQ_ret, ↓exitQ_exit, saA_self, saO_self, if_pos, if_neg, wrapI, get_concat, set_concat, Int.toNat_natCast, Int.toNat_zero, List.nil_append, Nat.mul_one, decide_eq_true, decide_eq_false, Int.reduceLE, Int.reduceLT, Int.reduceNeg, Bool.false_or, Bool.true_or, Bool.or_false, Bool.or_true, wrapU, Int.reduceAdd, Int.reduceSub, Int.reduceMul, List.append_assoc, List.length_append, get_mid, get_mid0, set_mid, set_mid0, List.length_set, List.length_cons, List.length_nil, List.cons_append, List.getElem?_append_left, List.set_append_left, get_at, get_at0, set_at, set_at0, List.getElem?_set_self, List.getElem?_set_ne, cfC, a157, hR, hz]
set_option maxHeartbeats 4000000 in
theorem next_eq (m : Mem X) (c : Cf) (p : Int) : c_conf_Config_Next [.agg (cfC c), .int .i64 p] m = some (.int .i64 (addrA c p 1), m ++ [.cells 6 false (cfC c), .cells 7 false (cfC c ++ [.int .i64 p]), .cells 6 false (cfC c)]) := by
  have a177 : assoc [(177, c_conf_own_at (X := X))] 177 = some c_conf_own_at := rfl
  have he : c_conf_Config_Next (X := X) = amFunc [(177, c_conf_own_at)] conf_Config_Next := rfl
  have ha := at_eq (m := m ++ [.cells 6 false (cfC c)]) c p 1 (by omega) (by omega)
  rw [he]
  generalize [(177, c_conf_own_at (X := X))] = G at a177 ⊢
  simp only [cfC, List.append_assoc, List.cons_append, List.nil_append] at ha
  refine Fn_eq (Fn_of rfl ?_)
  simp (disch := first | assumption | omega | (simp only [List.length_cons, List.length_nil, List.length_set, List.length_append] <;> omega) | (simp only [get_mid, get_mid0, List.cons_append, List.append_assoc, List.getElem?_cons_zero, List.getElem?_cons_succ])) only [conf_Config_Next, ek, ↓evW, ↓evQ, evB, evS, evL, List.map, AV.cells, List.all, AV.one, Bool.and_true, Bool.true_and, if_true, ↓thenQ_normal, ↓thenQ_exit, ↓thenQ_ret, ↓blockQ_normal, ↓blockQ_ret, ↓blockQ_exit, ↓CW_true, ↓CW_false, CW_true, CW_false, condT, condF, RQ_some, tupA_one, tupA_two, tupA_nil, Nat.reduceSub, Nat.reduceAdd, Nat.reduceMul, Nat.zero_add, Nat.add_zero, Nat.reduceLeDiff, Nat.reduceEqDiff, eqV, eqAll, fillA, and_self, and_true, true_and, Nat.le_refl, Bool.not_true, Bool.not_false, Bool.false_xor, Bool.true_xor, cond_true, cond_false, List.replicate, if_false, reduceIte, resAll, resA, ne_eq, decide_not, decide_true, decide_false, Int.reduceEq, Bool.not_true, Bool.not_false, not_true_eq_false, not_false_eq_true, cond_bool, cond_int, beq_self_eq_true, Int.reduceBEq, Bool.and_self, Bool.and_false, Bool.false_and, Bool.xor_false, Bool.xor_true, loadN_ldC, ldC_none, ldC_somes, stC_aggs, splice, storeN_stC, stC_int, stC_bool, stC_ptr, stC_nilp, stC_sl, stC_nils, getC_gcO, gcO_cells, W_draw_eq, ↓W_scope, ev_clear, evT, evF, evX, evM, ↓exitQ_normal, ↓exitQ_ret, ↓exitQ_exit, saA_self, saO_self, if_pos, if_neg, wrapI, get_concat, set_concat, Int.toNat_natCast, Int.toNat_zero, List.nil_append, Nat.mul_one, decide_eq_true, decide_eq_false, Int.reduceLE, Int.reduceLT, Int.reduceNeg, Bool.false_or, Bool.true_or, Bool.or_false, Bool.or_true, wrapU, Int.reduceAdd, Int.reduceSub, Int.reduceMul, List.append_assoc, List.length_append, get_mid, get_mid0, set_mid, set_mid0, List.length_set, List.length_cons, List.length_nil, List.cons_append, List.getElem?_append_left, List.set_append_left, get_at, get_at0, set_at, set_at0, List.getElem?_set_self, List.getElem?_set_ne, cfC, a177, ha]
set_option maxHeartbeats 4000000 in
theorem stat_eq (m : Mem X) (c : Cf) (p : Int) : c_conf_Config_Stat [.agg (cfC c), .int .i64 p] m = some (.int .i64 (addrA c p 2), m ++ [.cells 6 false (cfC c), .cells 7 false (cfC c ++ [.int .i64 p]), .cells 6 false (cfC c)]) := by
  have a177 : assoc [(177, c_conf_own_at (X := X))] 177 = some c_conf_own_at := rfl
  have he : c_conf_Config_Stat (X := X) = amFunc [(177, c_conf_own_at)] conf_Config_Stat := rfl
  have ha := at_eq (m := m ++ [.cells 6 false (cfC c)]) c p 2 (by omega) (by omega)
  rw [he]
  generalize [(177, c_conf_own_at (X := X))] = G at a177 ⊢
  simp only [cfC, List.append_assoc, List.cons_append, List.nil_append] at ha
  refine Fn_eq (Fn_of rfl ?_)
  simp (disch := first | assumption | omega | (simp only [List.length_cons, List.length_nil, List.length_set, List.length_append] <;> omega) | (simp only [get_mid, get_mid0, List.cons_append, List.append_assoc, List.getElem?_cons_zero, List.getElem?_cons_succ])) only [conf_Config_Stat, ek, ↓evW, ↓evQ, evB, evS, evL, List.map, AV.cells, List.all, AV.one, Bool.and_true, Bool.true_and, if_true, ↓thenQ_normal, ↓thenQ_exit, ↓thenQ_ret, ↓blockQ_normal, ↓blockQ_ret, ↓blockQ_exit, ↓CW_true, ↓CW_false, CW_true, CW_false, condT, condF, RQ_some, tupA_one, tupA_two, tupA_nil, Nat.reduceSub, Nat.reduceAdd, Nat.reduceMul, Nat.zero_add, Nat.add_zero, Nat.reduceLeDiff, Nat.reduceEqDiff, eqV, eqAll, fillA, and_self, and_true, true_and, Nat.le_refl, Bool.not_true, Bool.not_false, Bool.false_xor, Bool.true_xor, cond_true, cond_false, List.replicate, if_false, reduceIte, resAll, resA, ne_eq, decide_not, decide_true, decide_false, Int.reduceEq, Bool.not_true, Bool.not_false, not_true_eq_false, not_false_eq_true, cond_bool, cond_int, beq_self_eq_true, Int.reduceBEq, Bool.and_self, Bool.and_false, Bool.false_and, Bool.xor_false, Bool.xor_true, loadN_ldC, ldC_none, ldC_somes, stC_aggs, splice, storeN_stC, stC_int, stC_bool, stC_ptr, stC_nilp, stC_sl, stC_nils, getC_gcO, gcO_cells, W_draw_eq, ↓W_scope, ev_clear, evT, evF, evX, evM, ↓exitQ_normal, ↓exitQ_ret, ↓exitQ_exit, saA_self, saO_self, if_pos, if_neg, wrapI, get_concat, set_concat, Int.toNat_natCast, Int.toNat_zero, List.nil_append, Nat.mul_one, decide_eq_true, decide_eq_false, Int.reduceLE, Int.reduceLT, Int.reduceNeg, Bool.false_or, Bool.true_or, Bool.or_false, Bool.or_true, wrapU, Int.reduceAdd, Int.reduceSub, Int.reduceMul, List.append_assoc, List.length_append, get_mid, get_mid0, set_mid, set_mid0, List.length_set, List.length_cons, List.length_nil, List.cons_append, List.getElem?_append_left, List.set_append_left, get_at, get_at0, set_at, set_at0, List.getElem?_set_self, List.getElem?_set_ne, cfC, a177, ha]
set_option maxHeartbeats 4000000 in
theorem tick_eq (m : Mem X) (c : Cf) (p : Int) : c_conf_Config_Tick [.agg (cfC c), .int .i64 p] m = some (.int .i64 (addrA c p 3), m ++ [.cells 6 false (cfC c), .cells 7 false (cfC c ++ [.int .i64 p]), .cells 6 false (cfC c)]) := by
  have a177 : assoc [(177, c_conf_own_at (X := X))] 177 = some c_conf_own_at := rfl
  have he : c_conf_Config_Tick (X := X) = amFunc [(177, c_conf_own_at)] conf_Config_Tick := rfl
  have ha := at_eq (m := m ++ [.cells 6 false (cfC c)]) c p 3 (by omega) (by omega)
  rw [he]
  generalize [(177, c_conf_own_at (X := X))] = G at a177 ⊢
  simp only [cfC, List.append_assoc, List.cons_append, List.nil_append] at ha
  refine Fn_eq (Fn_of rfl ?_)
  simp (disch := first | assumption | omega | (simp only [List.length_cons, List.length_nil, List.length_set, List.length_append] <;> omega) | (simp only [get_mid, get_mid0, List.cons_append, List.append_assoc, List.getElem?_cons_zero, List.getElem?_cons_succ])) only [conf_Config_Tick, ek, ↓evW, ↓evQ, evB, evS, evL, List.map, AV.cells, List.all, AV.one, Bool.and_true, Bool.true_and, if_true, ↓thenQ_normal, ↓thenQ_exit, ↓thenQ_ret, ↓blockQ_normal, ↓blockQ_ret, ↓blockQ_exit, ↓CW_true, ↓CW_false, CW_true, CW_false, condT, condF, RQ_some, tupA_one, tupA_two, tupA_nil, Nat.reduceSub, Nat.reduceAdd, Nat.reduceMul, Nat.zero_add, Nat.add_zero, Nat.reduceLeDiff, Nat.reduceEqDiff, eqV, eqAll, fillA, and_self, and_true, true_and, Nat.le_refl, Bool.not_true, Bool.not_false, Bool.false_xor, Bool.true_xor, cond_true, cond_false, List.replicate, if_false, reduceIte, resAll, resA, ne_eq, decide_not, decide_true, decide_false, Int.reduceEq, Bool.not_true, Bool.not_false, not_true_eq_false, not_false_eq_true, cond_bool, cond_int, beq_self_eq_true, Int.reduceBEq, Bool.and_self, Bool.and_false, Bool.false_and, Bool.xor_false, Bool.xor_true, loadN_ldC, ldC_none, ldC_somes, stC_aggs, splice, storeN_stC, stC_int, stC_bool, stC_ptr, stC_nilp, stC_sl, stC_nils, getC_gcO, gcO_cells, W_draw_eq, ↓W_scope, ev_clear, evT, evF, evX, evM, ↓exitQ_normal, ↓exitQ_ret, ↓exitQ_exit, saA_self, saO_self, if_pos, if_neg, wrapI, get_concat, set_concat, Int.toNat_natCast, Int.toNat_zero, List.nil_append, Nat.mul_one, decide_eq_true, decide_eq_false, Int.reduceLE, Int.reduceLT, Int.reduceNeg, Bool.false_or, Bool.true_or, Bool.or_false, Bool.or_true, wrapU, Int.reduceAdd, Int.reduceSub, Int.reduceMul, List.append_assoc, List.length_append, get_mid, get_mid0, set_mid, set_mid0, List.length_set, List.length_cons, List.length_nil, List.cons_append, List.getElem?_append_left, List.set_append_left, get_at, get_at0, set_at, set_at0, List.getElem?_set_self, List.getElem?_set_ne, cfC, a177, ha]
set_option maxHeartbeats 4000000 in
theorem sys_eq (m : Mem X) (c : Cf) (p : Int) : c_conf_Config_Sys [.agg (cfC c), .int .i64 p] m = some (.int .i64 (addrA c p 4), m ++ [.cells 6 false (cfC c), .cells 7 false (cfC c ++ [.int .i64 p]), .cells 6 false (cfC c)]) := by
  have a177 : assoc [(177, c_conf_own_at (X := X))] 177 = some c_conf_own_at := rfl
  have he : c_conf_Config_Sys (X := X) = amFunc [(177, c_conf_own_at)] conf_Config_Sys := rfl
  have ha := at_eq (m := m ++ [.cells 6 false (cfC c)]) c p 4 (by omega) (by omega)
  rw [he]
  generalize [(177, c_conf_own_at (X := X))] = G at a177 ⊢
  simp only [cfC, List.append_assoc, List.cons_append, List.nil_append] at ha
  refine Fn_eq (Fn_of rfl ?_)
  simp (disch := first | assumption | omega | (simp only [List.length_cons, List.length_nil, List.length_set, List.length_append] <;> omega) | (simp only [get_mid, get_mid0, List.cons_append, List.append_assoc, List.getElem?_cons_zero, List.getElem?_cons_succ])) only [conf_Config_Sys, ek, ↓evW, ↓evQ, evB, evS, evL, List.map, AV.cells, List.all, AV.one, Bool.and_true, Bool.true_and, if_true, ↓thenQ_normal, ↓thenQ_exit, ↓thenQ_ret, ↓blockQ_normal, ↓blockQ_ret, ↓blockQ_exit, ↓CW_true, ↓CW_false, CW_true, CW_false, condT, condF, RQ_some, tupA_one, tupA_two, tupA_nil, Nat.reduceSub, Nat.reduceAdd, Nat.reduceMul, Nat.zero_add, Nat.add_zero, Nat.reduceLeDiff, Nat.reduceEqDiff, eqV, eqAll, fillA, and_self, and_true, true_and, Nat.le_refl, Bool.not_true, Bool.not_false, Bool.false_xor, Bool.true_xor, cond_true, cond_false, List.replicate, if_false, reduceIte, resAll, resA, ne_eq, decide_not, decide_true, decide_false, Int.reduceEq, Bool.not_true, Bool.not_false, not_true_eq_false, not_false_eq_true, cond_bool, cond_int, beq_self_eq_true, Int.reduceBEq, Bool.and_self, Bool.and_false, Bool.false_and, Bool.xor_false, Bool.xor_true, loadN_ldC, ldC_none, ldC_somes, stC_aggs, splice, storeN_stC, stC_int, stC_bool, stC_ptr, stC_nilp, stC_sl, stC_nils, getC_gcO, gcO_cells, W_draw_eq, ↓W_scope, ev_clear, evT, evF, evX, evM, ↓exitQ_normal, ↓exitQ_ret, ↓exitQ_exit, saA_self, saO_self, if_pos, if_neg, wrapI, get_concat, set_concat, Int.toNat_natCast, Int.toNat_zero, List.nil_append, Nat.mul_one, decide_eq_true, decide_eq_false, Int.reduceLE, Int.reduceLT, Int.reduceNeg, Bool.false_or, Bool.true_or, Bool.or_false, Bool.or_true, wrapU, Int.reduceAdd, Int.reduceSub, Int.reduceMul, List.append_assoc, List.length_append, get_mid, get_mid0, set_mid, set_mid0, List.length_set, List.length_cons, List.length_nil, List.cons_append, List.getElem?_append_left, List.set_append_left, get_at, get_at0, set_at, set_at0, List.getElem?_set_self, List.getElem?_set_ne, cfC, a177, ha]
set_option maxHeartbeats 4000000 in
theorem flag_eq (m : Mem X) (c : Cf) (p : Int) : c_conf_Config_Flag [.agg (cfC c), .int .i64 p] m = some (.int .i64 (addrA c p 5), m ++ [.cells 6 false (cfC c), .cells 7 false (cfC c ++ [.int .i64 p]), .cells 6 false (cfC c)]) := by
  have a177 : assoc [(177, c_conf_own_at (X := X))] 177 = some c_conf_own_at := rfl
  have he : c_conf_Config_Flag (X := X) = amFunc [(177, c_conf_own_at)] conf_Config_Flag := rfl
  have ha := at_eq (m := m ++ [.cells 6 false (cfC c)]) c p 5 (by omega) (by omega)
  rw [he]
  generalize [(177, c_conf_own_at (X := X))] = G at a177 ⊢
  simp only [cfC, List.append_assoc, List.cons_append, List.nil_append] at ha
  refine Fn_eq (Fn_of rfl ?_)
  simp (disch := first | assumption | omega | (simp only [List.length_cons, List.length_nil, List.length_set, List.length_append] <;> omega) | (simp only [get_mid, get_mid0, List.cons_append, List.append_assoc, List.getElem?_cons_zero, List.getElem?_cons_succ])) only [conf_Config_Flag, ek, ↓evW, ↓evQ, evB, evS, evL, List.map, AV.cells, List.all, AV.one, Bool.and_true, Bool.true_and, if_true, ↓thenQ_normal, ↓thenQ_exit, ↓thenQ_ret, ↓blockQ_normal, ↓blockQ_ret, ↓blockQ_exit, ↓CW_true, ↓CW_false, CW_true, CW_false, condT, condF, RQ_some, tupA_one, tupA_two, tupA_nil, Nat.reduceSub, Nat.reduceAdd, Nat.reduceMul, Nat.zero_add, Nat.add_zero, Nat.reduceLeDiff, Nat.reduceEqDiff, eqV, eqAll, fillA, and_self, and_true, true_and, Nat.le_refl, Bool.not_true, Bool.not_false, Bool.false_xor, Bool.true_xor, cond_true, cond_false, List.replicate, if_false, reduceIte, resAll, resA, ne_eq, decide_not, decide_true, decide_false, Int.reduceEq, Bool.not_true, Bool.not_false, not_true_eq_false, not_false_eq_true, cond_bool, cond_int, beq_self_eq_true, Int.reduceBEq, Bool.and_self, Bool.and_false, Bool.false_and, Bool.xor_false, Bool.xor_true, loadN_ldC, ldC_none, ldC_somes, stC_aggs, splice, storeN_stC, stC_int, stC_bool, stC_ptr, stC_nilp, stC_sl, stC_nils, getC_gcO, gcO_cells, W_draw_eq, ↓W_scope, ev_clear, evT, evF, evX, evM, ↓exitQ_normal, ↓exitQ_ret, ↓exitQ_exit, saA_self, saO_self, if_pos, if_neg, wrapI, get_concat, set_concat, Int.toNat_natCast, Int.toNat_zero, List.nil_append, Nat.mul_one, decide_eq_true, decide_eq_false, Int.reduceLE, Int.reduceLT, Int.reduceNeg, Bool.false_or, Bool.true_or, Bool.or_false, Bool.or_true, wrapU, Int.reduceAdd, Int.reduceSub, Int.reduceMul, List.append_assoc, List.length_append, get_mid, get_mid0, set_mid, set_mid0, List.length_set, List.length_cons, List.length_nil, List.cons_append, List.getElem?_append_left, List.set_append_left, get_at, get_at0, set_at, set_at0, List.getElem?_set_self, List.getElem?_set_ne, cfC, a177, ha]
abbrev SB (m : Mem X) (bs : List Int) (v : AV) : Prop := Sl m false 1 bs.length (bs.map (AV.int .u8)) v
def byteV (bs : List Int) (i : Int) : Int := bs.getD i.toNat 0
theorem byteV_b {bs : List Int} (hb : ∀ x, x ∈ bs → 0 ≤ x ∧ x < 256) (i : Int) : 0 ≤ byteV bs i ∧ byteV bs i < 256 := by
  unfold byteV
  rw [List.getD_eq_getElem?_getD]
  cases h : bs[i.toNat]? with
  | none => simp
  | some x => exact hb x (List.mem_of_getElem? h)
theorem byte_eq {m : Mem X} {bs : List Int} {v : AV} (h : SB m bs v) (hb : ∀ x, x ∈ bs → 0 ≤ x ∧ x < 256) {i : Int} (hi : 0 ≤ i) : c_docs_byteAt [v, .int .i64 i] m = some (.int .i64 (byteV bs i), m) := by
  have hlen := h.len
  have he : c_docs_byteAt (X := X) = amFunc [] docs_byteAt := rfl
  rw [he]
  by_cases hlt : i < bs.length
  · obtain ⟨k, rfl⟩ : ∃ k : Nat, i = k := ⟨i.toNat, by omega⟩
    obtain ⟨x, hx⟩ : ∃ x, bs[k]? = some x := ⟨_, List.getElem?_eq_getElem (by omega)⟩
    have hxb := hb x (List.mem_of_getElem? hx)
    have hv : byteV bs k = x := by unfold byteV; rw [List.getD_eq_getElem?_getD, Int.toNat_natCast, hx]; rfl
    rw [hv]
    obtain ⟨q, o, cap, ro, L, rfl, h2, h3, h4, _⟩ := h.at (by omega)
    have hg : L[o + k]? = some (.int .u8 x) := by rw [sl_get h3 (by omega)]; simp [hx]
    have e1 : IntKind.i64.wrap x = x := wrapI (by omega) (by omega)
    refine Fn_eq (Fn_of rfl ?_)
    simp (disch := first | assumption | omega | (simp only [List.length_cons, List.length_nil, List.length_set, List.length_append] <;> omega) | (simp only [get_mid, get_mid0, List.cons_append, List.append_assoc, List.getElem?_cons_zero, List.getElem?_cons_succ])) only [docs_byteAt, ek, ↓evW, ↓evQ, evB, evS, evL, List.map, AV.cells, List.all, AV.one, Bool.and_true, Bool.true_and, if_true, ↓thenQ_normal, ↓thenQ_exit, ↓thenQ_ret, ↓blockQ_normal, ↓blockQ_ret, ↓blockQ_exit, ↓CW_true, ↓CW_false, CW_true, CW_false, condT, condF, RQ_some, tupA_one, tupA_two, tupA_nil, Nat.reduceSub, Nat.reduceAdd, Nat.reduceMul, Nat.zero_add, Nat.add_zero, Nat.reduceLeDiff, Nat.reduceEqDiff, eqV, eqAll, fillA, and_self, and_true, true_and, Nat.le_refl, Bool.not_true, Bool.not_false, Bool.false_xor, Bool.true_xor, cond_true, cond_false, List.replicate, if_false, reduceIte, resAll, resA, ne_eq, decide_not, decide_true, decide_false, Int.reduceEq, Bool.not_true, Bool.not_false, not_true_eq_false, not_false_eq_true, cond_bool, cond_int, beq_self_eq_true, Int.reduceBEq, Bool.and_self, Bool.and_false, Bool.false_and, Bool.xor_false, Bool.xor_true, loadN_ldC, ldC_none, ldC_somes, stC_aggs, splice, storeN_stC, stC_int, stC_bool, stC_ptr, stC_nilp, stC_sl, stC_nils, getC_gcO, gcO_cells, W_draw_eq, ↓W_scope, ev_clear, evT, evF, evX, evM, ↓exitQ_normal, ↓exitQ_ret, ↓exitQ_exit, saA_self, saO_self, if_pos, if_neg, wrapI, get_concat, set_concat, Int.toNat_natCast, Int.toNat_zero, List.nil_append, Nat.mul_one, decide_eq_true, decide_eq_false, Int.reduceLE, Int.reduceLT, Int.reduceNeg, Bool.false_or, Bool.true_or, Bool.or_false, Bool.or_true, wrapU, Int.reduceAdd, Int.reduceSub, Int.reduceMul, List.append_assoc, List.length_append, get_mid, get_mid0, set_mid, set_mid0, List.length_set, List.length_cons, List.length_nil, List.cons_append, List.getElem?_append_left, List.set_append_left, get_at, get_at0, set_at, set_at0, List.getElem?_set_self, List.getElem?_set_ne, ev_len, hlen, h2, hg, e1]
  · have hv : byteV bs i = 0 := by unfold byteV; rw [List.getD_eq_getElem?_getD, List.getElem?_eq_none (by omega)]; rfl
    rw [hv]
    refine Fn_eq (Fn_of rfl ?_)
    simp (disch := first | assumption | omega | (simp only [List.length_cons, List.length_nil, List.length_set, List.length_append] <;> omega) | (simp only [get_mid, get_mid0, List.cons_append, List.append_assoc, List.getElem?_cons_zero, List.getElem?_cons_succ])) only [docs_byteAt, ek, ↓evW, ↓evQ, evB, evS, evL, List.map, AV.cells, List.all, AV.one, Bool.and_true, Bool.true_and, if_true, ↓thenQ_normal, ↓thenQ_exit, ↓thenQ_ret, ↓blockQ_normal, ↓blockQ_ret, ↓blockQ_exit, ↓CW_true, ↓CW_false, CW_true, CW_false, condT, condF, RQ_some, tupA_one, tupA_two, tupA_nil, Nat.reduceSub, Nat.reduceAdd, Nat.reduceMul, Nat.zero_add, Nat.add_zero, Nat.reduceLeDiff, Nat.reduceEqDiff, eqV, eqAll, fillA, and_self, and_true, true_and, Nat.le_refl, Bool.not_true, Bool.not_false, Bool.false_xor, Bool.true_xor, cond_true, cond_false, List.replicate, if_false, reduceIte, resAll, resA, ne_eq, decide_not, decide_true, decide_false, Int.reduceEq, Bool.not_true, Bool.not_false, not_true_eq_false, not_false_eq_true, cond_bool, cond_int, beq_self_eq_true, Int.reduceBEq, Bool.and_self, Bool.and_false, Bool.false_and, Bool.xor_false, Bool.xor_true, loadN_ldC, ldC_none, ldC_somes, stC_aggs, splice, storeN_stC, stC_int, stC_bool, stC_ptr, stC_nilp, stC_sl, stC_nils, getC_gcO, gcO_cells, W_draw_eq, ↓W_scope, ev_clear, evT, evF, evX, evM, ↓exitQ_normal, ↓exitQ_ret, ↓exitQ_exit, saA_self, saO_self, if_pos, if_neg, wrapI, get_concat, set_concat, Int.toNat_natCast, Int.toNat_zero, List.nil_append, Nat.mul_one, decide_eq_true, decide_eq_false, Int.reduceLE, Int.reduceLT, Int.reduceNeg, Bool.false_or, Bool.true_or, Bool.or_false, Bool.or_true, wrapU, Int.reduceAdd, Int.reduceSub, Int.reduceMul, List.append_assoc, List.length_append, get_mid, get_mid0, set_mid, set_mid0, List.length_set, List.length_cons, List.length_nil, List.cons_append, List.getElem?_append_left, List.set_append_left, get_at, get_at0, set_at, set_at0, List.getElem?_set_self, List.getElem?_set_ne, ev_len, hlen]
set_option maxHeartbeats 4000000 in
theorem slot_eqR (m : Mem X) {c : Cf} (hr : rightP c) (p : Int) {i : Int} (hi : 0 ≤ i) (hi2 : i < 4294967296) : c_conf_Config_Slot [.agg (cfC c), .int .i64 p, .int .u32 i] m = some (.int .i64 (slotA c p i), m ++ [.cells 6 false (cfC c), .cells 6 false (cfC c), .cells 7 false (cfC c ++ [.int .i64 p]), .cells 6 false (cfC c)]) := by
  have a157 : assoc [(157, c_conf_Config_Right (X := X)), (177, c_conf_own_at)] 157 = some c_conf_Config_Right := rfl
  have a177 : assoc [(157, c_conf_Config_Right (X := X)), (177, c_conf_own_at)] 177 = some c_conf_own_at := rfl
  have he : c_conf_Config_Slot (X := X) = amFunc [(157, c_conf_Config_Right), (177, c_conf_own_at)] conf_Config_Slot := rfl
  rw [he]
  generalize [(157, c_conf_Config_Right (X := X)), (177, c_conf_own_at)] = G at a157 a177 ⊢
  have hR := right_eq (m ++ [.cells 6 false (cfC c)]) c
  rw [decide_eq_true hr] at hR
  have hq : 2 ≤ c.q ∧ c.q ≤ 64 := by have := hr.2.1; unfold roomP at this; omega
  have e0 : IntKind.u32.wrap c.q = c.q := by rw [wrap32]; omega
  have h0 := Int.emod_nonneg i (b := c.q) (by omega)
  have h1 := Int.emod_lt_of_pos i (b := c.q) (by omega)
  have e1 : i.tmod c.q = i % c.q := Int.tmod_eq_emod_of_nonneg hi
  have e2 : IntKind.i64.wrap (i % c.q) = i % c.q := wrapI (by omega) (by omega)
  have e3 : IntKind.i64.wrap (6 + i % c.q) = 6 + i % c.q := wrapI (by omega) (by omega)
  have e4 : ¬ (c.q = 0) := by omega
  have ha := at_eq (m := m ++ [.cells 6 false (cfC c), .cells 6 false (cfC c)]) c p (6 + i % c.q) (by omega) (by omega)
  simp only [cfC, List.append_assoc, List.cons_append, List.nil_append] at hR ha
  refine Fn_eq (Fn_of rfl ?_)
  simp (disch := first | assumption | omega | (simp only [List.length_cons, List.length_nil, List.length_set, List.length_append] <;> omega) | (simp only [get_mid, get_mid0, List.cons_append, List.append_assoc, List.getElem?_cons_zero, List.getElem?_cons_succ])) only [conf_Config_Slot, ek, ↓evW, ↓evQ, evB, evS, evL, List.map, AV.cells, List.all, AV.one, Bool.and_true, Bool.true_and, if_true, ↓thenQ_normal, ↓thenQ_exit, ↓thenQ_ret, ↓blockQ_normal, ↓blockQ_ret, ↓blockQ_exit, ↓CW_true, ↓CW_false, CW_true, CW_false, condT, condF, RQ_some, tupA_one, tupA_two, tupA_nil, Nat.reduceSub, Nat.reduceAdd, Nat.reduceMul, Nat.zero_add, Nat.add_zero, Nat.reduceLeDiff, Nat.reduceEqDiff, eqV, eqAll, fillA, and_self, and_true, true_and, Nat.le_refl, Bool.not_true, Bool.not_false, Bool.false_xor, Bool.true_xor, cond_true, cond_false, List.replicate, if_false, reduceIte, resAll, resA, ne_eq, decide_not, decide_true, decide_false, Int.reduceEq, Bool.not_true, Bool.not_false, not_true_eq_false, not_false_eq_true, cond_bool, cond_int, beq_self_eq_true, Int.reduceBEq, Bool.and_self, Bool.and_false, Bool.false_and, Bool.xor_false, Bool.xor_true, loadN_ldC, ldC_none, ldC_somes, stC_aggs, splice, storeN_stC, stC_int, stC_bool, stC_ptr, stC_nilp, stC_sl, stC_nils, getC_gcO, gcO_cells, W_draw_eq, ↓W_scope, ev_clear, evT, evF, evX, evM, ↓exitQ_normal, ↓exitQ_ret, ↓exitQ_exit, saA_self, saO_self, if_pos, if_neg, wrapI, get_concat, set_concat, Int.toNat_natCast, Int.toNat_zero, List.nil_append, Nat.mul_one, decide_eq_true, decide_eq_false, Int.reduceLE, Int.reduceLT, Int.reduceNeg, Bool.false_or, Bool.true_or, Bool.or_false, Bool.or_true, wrapU, Int.reduceAdd, Int.reduceSub, Int.reduceMul, List.append_assoc, List.length_append, get_mid, get_mid0, set_mid, set_mid0, List.length_set, List.length_cons, List.length_nil, List.cons_append, List.getElem?_append_left, List.set_append_left, get_at, get_at0, set_at, set_at0, List.getElem?_set_self, List.getElem?_set_ne, cfC, a157, hR, e0, e4, e1, e2, e3, a177, ha]
  rw [slotA, if_pos hr]
end Go.Am.F10
