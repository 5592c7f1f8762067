import Derived.Test.YtimgbjimonmkdaaXG17
set_option linter.unusedSimpArgs false
set_option linter.unusedVariables false
section
namespace Go.Am.F10
open Go.Am.F06 (memC slOne)
variable {X : Type}
theorem rright_eq (m : Mem X) (c : Cf) : c_ref05_Right [.agg (cfC c)] m = some (.bool (decide (rightP c)), m ++ [.cells 6 false (cfC c)]) := Fn_eq (rright_run (G := []) c)
theorem rthere_eq (m : Mem X) (c : Cf) (p : Int) : c_ref09_There [.agg (cfC c), .int .i64 p] m = some (.bool (decide (thereP c p)), m ++ [.cells 6 false (cfC c), .cells 6 false (cfC c)]) := by
  have a181 : assoc [(181, c_ref05_Right (X := X))] 181 = some c_ref05_Right := rfl
  have he : c_ref09_There (X := X) = amFunc [(181, c_ref05_Right)] ref09_There := rfl
  rw [he]
  generalize [(181, c_ref05_Right (X := X))] = G at a181 ⊢
  have hr := rright_eq (m ++ [.cells 6 false (cfC c)]) c
  simp only [cfC, List.append_assoc, List.cons_append, List.nil_append] at hr
  refine Fn_eq (Fn_of rfl ?_)
  by_cases h : rightP c
  · simp only [decide_eq_true h] at hr
    simp (disch := first | assumption | omega | (simp only [List.length_cons, List.length_nil, List.length_set, List.length_append] <;> omega) | (simp only [get_mid, get_mid0, List.cons_append, List.append_assoc, List.getElem?_cons_zero, List.getElem?_cons_succ])) only [ref09_There, ek, ↓evW, ↓evQ, evB, evS, evL, List.map, AV.cells, List.all, AV.one, Bool.and_true, Bool.true_and, if_true, ↓thenQ_normal, ↓thenQ_exit, ↓thenQ_ret, ↓blockQ_normal, ↓blockQ_ret, ↓blockQ_exit, ↓CW_true, ↓CW_false, CW_true, CW_false, condT, condF, RQ_some, tupA_one, tupA_two, tupA_nil, Nat.reduceSub, Nat.reduceAdd, Nat.reduceMul, Nat.zero_add, Nat.add_zero, Nat.reduceLeDiff, Nat.reduceEqDiff, eqV, eqAll, fillA, and_self, and_true, true_and, Nat.le_refl, Bool.not_true, Bool.not_false, Bool.false_xor, Bool.true_xor, cond_true, cond_false, List.replicate, if_false, reduceIte, resAll, resA, ne_eq, decide_not, decide_true, decide_false, Int.reduceEq, Bool.not_true, Bool.not_false, not_true_eq_false, not_false_eq_true, cond_bool, cond_int, beq_self_eq_true, Int.reduceBEq, Bool.and_self, Bool.and_false, Bool.false_and, Bool.xor_false, Bool.xor_true, loadN_ldC, ldC_none, ldC_somes, stC_aggs, splice, storeN_stC, stC_int, stC_bool, stC_ptr, stC_nilp, stC_sl, stC_nils, getC_gcO, gcO_cells, W_draw_eq, ↓W_scope, ev_clear, evT, evF, evX, evM, ↓exitQ_normal, ↓exitQ_ret, ↓exitQ_exit, saA_self, saO_self, if_pos, if_neg, wrapI, get_concat, set_concat, Int.toNat_natCast, Int.toNat_zero, List.nil_append, Nat.mul_one, decide_eq_true, decide_eq_false, Int.reduceLE, Int.reduceLT, Int.reduceNeg, Bool.false_or, Bool.true_or, Bool.or_false, Bool.or_true, wrapU, Int.reduceAdd, Int.reduceSub, Int.reduceMul, List.append_assoc, List.length_append, get_mid, get_mid0, set_mid, set_mid0, List.length_set, List.length_cons, List.length_nil, List.cons_append, List.getElem?_append_left, List.set_append_left, get_at, get_at0, set_at, set_at0, List.getElem?_set_self, List.getElem?_set_ne, cfC, a181, hr]
    repeat' ((first | refine GK_of (fun h => ?_) (fun h => ?_) | refine CW_of (fun h => ?_) (fun h => ?_) | refine GKT_of (fun h => ?_) (fun h => ?_)) <;> (try simp only [Bool.not_eq_true', Bool.not_eq_false', decide_eq_true_eq, decide_eq_false_iff_not, Bool.and_eq_true, Bool.or_eq_true, Bool.and_eq_false_iff, Bool.or_eq_false_iff, Decidable.not_not] at h) <;> (try simp (disch := first | assumption | omega | (simp only [List.length_cons, List.length_nil, List.length_set, List.length_append] <;> omega) | (simp only [get_mid, get_mid0, List.cons_append, List.append_assoc, List.getElem?_cons_zero, List.getElem?_cons_succ])) only [ek, ↓evW, ↓evQ, evB, evS, evL, List.map, AV.cells, List.all, AV.one, Bool.and_true, Bool.true_and, if_true, ↓thenQ_normal, ↓thenQ_exit, ↓thenQ_ret, ↓blockQ_normal, ↓blockQ_ret, ↓blockQ_exit, ↓CW_true, ↓CW_false, CW_true, CW_false, condT, condF, RQ_some, tupA_one, tupA_two, tupA_nil, Nat.reduceSub, Nat.reduceAdd, Nat.reduceMul, Nat.zero_add, Nat.add_zero, Nat.reduceLeDiff, Nat.reduceEqDiff, eqV, eqAll, fillA, and_self, and_true, true_and, Nat.le_refl, Bool.not_true, Bool.not_false, Bool.false_xor, Bool.true_xor, cond_true, cond_false, List.replicate, if_false, reduceIte, resAll, resA, ne_eq, decide_not, decide_true, decide_false, Int.reduceEq, Bool.not_true, Bool.not_false, not_true_eq_false, not_false_eq_true, cond_bool, cond_int, beq_self_eq_true, Int.reduceBEq, Bool.and_self, Bool.and_false, Bool.false_and, Bool.xor_false, Bool.xor_true, loadN_ldC, ldC_none, ldC_somes, stC_aggs, splice, storeN_stC, stC_int, stC_bool, stC_ptr, stC_nilp, stC_sl, stC_nils, getC_gcO, gcO_cells, W_draw_eq, ↓W_scope, ev_clear, evT, evF, evX, evM, ↓exitQ_normal, ↓exitQ_ret, ↓exitQ_exit, saA_self, saO_self, if_pos, if_neg, wrapI, get_concat, set_concat, Int.toNat_natCast, Int.toNat_zero, List.nil_append, Nat.mul_one, decide_eq_true, decide_eq_false, Int.reduceLE, Int.reduceLT, Int.reduceNeg, Bool.false_or, Bool.true_or, Bool.or_false, Bool.or_true, wrapU, Int.reduceAdd, Int.reduceSub, Int.reduceMul, List.append_assoc, List.length_append, get_mid, get_mid0, set_mid, set_mid0, List.length_set, List.length_cons, List.length_nil, List.cons_append, List.getElem?_append_left, List.set_append_left, get_at, get_at0, set_at, set_at0, List.getElem?_set_self, List.getElem?_set_ne, cfC, h]))
    all_goals refine congrArg _ ?_
    all_goals rw [← Bool.eq_iff_iff.2 (show decide (0 ≤ p ∧ p < c.n) = true ↔ decide (thereP c p) = true by simp only [decide_eq_true_eq]; exact ⟨fun hh => ⟨‹rightP c›, hh⟩, fun hh => hh.2⟩)]
    all_goals first | (rw [decide_eq_true (by omega)]; done) | (rw [decide_eq_false (by omega)]; done) | (rw [decide_eq_decide]; omega)
  · simp only [decide_eq_false h] at hr
    simp (disch := first | assumption | omega | (simp only [List.length_cons, List.length_nil, List.length_set, List.length_append] <;> omega) | (simp only [get_mid, get_mid0, List.cons_append, List.append_assoc, List.getElem?_cons_zero, List.getElem?_cons_succ])) only [ref09_There, ek, ↓evW, ↓evQ, evB, evS, evL, List.map, AV.cells, List.all, AV.one, Bool.and_true, Bool.true_and, if_true, ↓thenQ_normal, ↓thenQ_exit, ↓thenQ_ret, ↓blockQ_normal, ↓blockQ_ret, ↓blockQ_exit, ↓CW_true, ↓CW_false, CW_true, CW_false, condT, condF, RQ_some, tupA_one, tupA_two, tupA_nil, Nat.reduceSub, Nat.reduceAdd, Nat.reduceMul, Nat.zero_add, Nat.add_zero, Nat.reduceLeDiff, Nat.reduceEqDiff, eqV, eqAll, fillA, and_self, and_true, true_and, Nat.le_refl, Bool.not_true, Bool.not_false, Bool.false_xor, Bool.true_xor, cond_true, cond_false, List.replicate, if_false, reduceIte, resAll, resA, ne_eq, decide_not, decide_true, decide_false, Int.reduceEq, Bool.not_true, Bool.not_false, not_true_eq_false, not_false_eq_true, cond_bool, cond_int, beq_self_eq_true, Int.reduceBEq, Bool.and_self, Bool.and_false, Bool.false_and, Bool.xor_false, Bool.xor_true, loadN_ldC, ldC_none, ldC_somes, stC_aggs, splice, storeN_stC, stC_int, stC_bool, stC_ptr, stC_nilp, stC_sl, stC_nils, getC_gcO, gcO_cells, W_draw_eq, ↓W_scope, ev_clear, evT, evF, evX, evM, ↓exitQ_normal, ↓exitQ_ret, ↓exitQ_exit, saA_self, saO_self, if_pos, if_neg, wrapI, get_concat, set_concat, Int.toNat_natCast, Int.toNat_zero, List.nil_append, Nat.mul_one, decide_eq_true, decide_eq_false, Int.reduceLE, Int.reduceLT, Int.reduceNeg, Bool.false_or, Bool.true_or, Bool.or_false, Bool.or_true, wrapU, Int.reduceAdd, Int.reduceSub, Int.reduceMul, List.append_assoc, List.length_append, get_mid, get_mid0, set_mid, set_mid0, List.length_set, List.length_cons, List.length_nil, List.cons_append, List.getElem?_append_left, List.set_append_left, get_at, get_at0, set_at, set_at0, List.getElem?_set_self, List.getElem?_set_ne, cfC, a181, hr]
    rw [decide_eq_false (fun hc => h hc.1)]
theorem config_eq (m : Mem X) (c : Cf) : c_docs_Config [.agg (cfC c)] m = some (.agg (cfC c), m ++ [.cells 6 false (cfC c), .cells 6 false (cfC c)]) := by
  have he : c_docs_Config (X := X) = amFunc [] docs_Config := rfl
  rw [he]
  refine Fn_eq (Fn_of rfl ?_)
  simp (disch := first | assumption | omega | (simp only [List.length_cons, List.length_nil, List.length_set, List.length_append] <;> omega) | (simp only [get_mid, get_mid0, List.cons_append, List.append_assoc, List.getElem?_cons_zero, List.getElem?_cons_succ])) only [docs_Config, ek, ↓evW, ↓evQ, evB, evS, evL, List.map, AV.cells, List.all, AV.one, Bool.and_true, Bool.true_and, if_true, ↓thenQ_normal, ↓thenQ_exit, ↓thenQ_ret, ↓blockQ_normal, ↓blockQ_ret, ↓blockQ_exit, ↓CW_true, ↓CW_false, CW_true, CW_false, condT, condF, RQ_some, tupA_one, tupA_two, tupA_nil, Nat.reduceSub, Nat.reduceAdd, Nat.reduceMul, Nat.zero_add, Nat.add_zero, Nat.reduceLeDiff, Nat.reduceEqDiff, eqV, eqAll, fillA, and_self, and_true, true_and, Nat.le_refl, Bool.not_true, Bool.not_false, Bool.false_xor, Bool.true_xor, cond_true, cond_false, List.replicate, if_false, reduceIte, resAll, resA, ne_eq, decide_not, decide_true, decide_false, Int.reduceEq, Bool.not_true, Bool.not_false, not_true_eq_false, not_false_eq_true, cond_bool, cond_int, beq_self_eq_true, Int.reduceBEq, Bool.and_self, Bool.and_false, Bool.false_and, Bool.xor_false, Bool.xor_true, loadN_ldC, ldC_none, ldC_somes, stC_aggs, splice, storeN_stC, stC_int, stC_bool, stC_ptr, stC_nilp, stC_sl, stC_nils, getC_gcO, gcO_cells, W_draw_eq, ↓W_scope, ev_clear, evT, evF, evX, evM, ↓exitQ_normal, ↓exitQ_ret, ↓exitQ_exit, saA_self, saO_self, if_pos, if_neg, wrapI, get_concat, set_concat, Int.toNat_natCast, Int.toNat_zero, List.nil_append, Nat.mul_one, decide_eq_true, decide_eq_false, Int.reduceLE, Int.reduceLT, Int.reduceNeg, Bool.false_or, Bool.true_or, Bool.or_false, Bool.or_true, wrapU, Int.reduceAdd, Int.reduceSub, Int.reduceMul, List.append_assoc, List.length_append, get_mid, get_mid0, set_mid, set_mid0, List.length_set, List.length_cons, List.length_nil, List.cons_append, List.getElem?_append_left, List.set_append_left, get_at, get_at0, set_at, set_at0, List.getElem?_set_self, List.getElem?_set_ne, cfC]
def rgC (c : Cf) (p a w seen got : Int) (has : Bool) (tries : Int) : List AV := cfC c ++ [.int .i64 p, .int .i64 a, .int .u64 w, .int .i64 seen, .int .i64 got, .bool has, .int .i64 tries]
def rnewC (c : Cf) (p : Int) : List AV := if thereP c p then rgC c p 1 0 0 0 false 0 else rgC zeroC 0 0 0 0 0 false 0
theorem rnew_eq (m : Mem X) (c : Cf) (p : Int) : c_ref10_New [.agg (cfC c), .int .i64 p] m = some (.agg (rnewC c p), m ++ [.cells 6 false (cfC c), .cells 13 false (rnewC c p), .cells 6 false (cfC c), .cells 6 false (cfC c)]) := by
  have a169 : assoc [(169, c_ref09_There (X := X))] 169 = some c_ref09_There := rfl
  have he : c_ref10_New (X := X) = amFunc [(169, c_ref09_There)] ref10_New := rfl
  rw [he]
  generalize [(169, c_ref09_There (X := X))] = G at a169 ⊢
  have hr := fun K => rthere_eq (m ++ K) c p
  simp only [cfC, List.append_assoc, List.cons_append, List.nil_append] at hr
  by_cases h : thereP c p
  · simp only [decide_eq_true h] at hr
    refine Fn_eq (Fn_of rfl ?_)
    simp (disch := first | assumption | omega | (simp only [List.length_cons, List.length_nil, List.length_set, List.length_append] <;> omega) | (simp only [get_mid, get_mid0, List.cons_append, List.append_assoc, List.getElem?_cons_zero, List.getElem?_cons_succ])) only [ref10_New, ek, ↓evW, ↓evQ, evB, evS, evL, List.map, AV.cells, List.all, AV.one, Bool.and_true, Bool.true_and, if_true, ↓thenQ_normal, ↓thenQ_exit, ↓thenQ_ret, ↓blockQ_normal, ↓blockQ_ret, ↓blockQ_exit, ↓CW_true, ↓CW_false, CW_true, CW_false, condT, condF, RQ_some, tupA_one, tupA_two, tupA_nil, Nat.reduceSub, Nat.reduceAdd, Nat.reduceMul, Nat.zero_add, Nat.add_zero, Nat.reduceLeDiff, Nat.reduceEqDiff, eqV, eqAll, fillA, and_self, and_true, true_and, Nat.le_refl, Bool.not_true, Bool.not_false, Bool.false_xor, Bool.true_xor, cond_true, cond_false, List.replicate, if_false, reduceIte, resAll, resA, ne_eq, decide_not, decide_true, decide_false, Int.reduceEq, Bool.not_true, Bool.not_false, not_true_eq_false, not_false_eq_true, cond_bool, cond_int, beq_self_eq_true, Int.reduceBEq, Bool.and_self, Bool.and_false, Bool.false_and, Bool.xor_false, Bool.xor_true, loadN_ldC, ldC_none, ldC_somes, stC_aggs, splice, storeN_stC, stC_int, stC_bool, stC_ptr, stC_nilp, stC_sl, stC_nils, getC_gcO, gcO_cells, W_draw_eq, ↓W_scope, ev_clear, evT, evF, evX, evM, ↓exitQ_normal, ↓exitQ_ret, ↓exitQ_exit, saA_self, saO_self, if_pos, if_neg, wrapI, get_concat, set_concat, Int.toNat_natCast, Int.toNat_zero, List.nil_append, Nat.mul_one, decide_eq_true, decide_eq_false, Int.reduceLE, Int.reduceLT, Int.reduceNeg, Bool.false_or, Bool.true_or, Bool.or_false, Bool.or_true, wrapU, Int.reduceAdd, Int.reduceSub, Int.reduceMul, List.append_assoc, List.length_append, get_mid, get_mid0, set_mid, set_mid0, List.length_set, List.length_cons, List.length_nil, List.cons_append, List.getElem?_append_left, List.set_append_left, get_at, get_at0, set_at, set_at0, List.getElem?_set_self, List.getElem?_set_ne, cfC, a169, hr]
    rw [rnewC, if_pos h]; exact ⟨rfl, rfl⟩
  · simp only [decide_eq_false h] at hr
    refine Fn_eq (Fn_of rfl ?_)
    simp (disch := first | assumption | omega | (simp only [List.length_cons, List.length_nil, List.length_set, List.length_append] <;> omega) | (simp only [get_mid, get_mid0, List.cons_append, List.append_assoc, List.getElem?_cons_zero, List.getElem?_cons_succ])) only [ref10_New, ek, ↓evW, ↓evQ, evB, evS, evL, List.map, AV.cells, List.all, AV.one, Bool.and_true, Bool.true_and, if_true, ↓thenQ_normal, ↓thenQ_exit, ↓thenQ_ret, ↓blockQ_normal, ↓blockQ_ret, ↓blockQ_exit, ↓CW_true, ↓CW_false, CW_true, CW_false, condT, condF, RQ_some, tupA_one, tupA_two, tupA_nil, Nat.reduceSub, Nat.reduceAdd, Nat.reduceMul, Nat.zero_add, Nat.add_zero, Nat.reduceLeDiff, Nat.reduceEqDiff, eqV, eqAll, fillA, and_self, and_true, true_and, Nat.le_refl, Bool.not_true, Bool.not_false, Bool.false_xor, Bool.true_xor, cond_true, cond_false, List.replicate, if_false, reduceIte, resAll, resA, ne_eq, decide_not, decide_true, decide_false, Int.reduceEq, Bool.not_true, Bool.not_false, not_true_eq_false, not_false_eq_true, cond_bool, cond_int, beq_self_eq_true, Int.reduceBEq, Bool.and_self, Bool.and_false, Bool.false_and, Bool.xor_false, Bool.xor_true, loadN_ldC, ldC_none, ldC_somes, stC_aggs, splice, storeN_stC, stC_int, stC_bool, stC_ptr, stC_nilp, stC_sl, stC_nils, getC_gcO, gcO_cells, W_draw_eq, ↓W_scope, ev_clear, evT, evF, evX, evM, ↓exitQ_normal, ↓exitQ_ret, ↓exitQ_exit, saA_self, saO_self, if_pos, if_neg, wrapI, get_concat, set_concat, Int.toNat_natCast, Int.toNat_zero, List.nil_append, Nat.mul_one, decide_eq_true, decide_eq_false, Int.reduceLE, Int.reduceLT, Int.reduceNeg, Bool.false_or, Bool.true_or, Bool.or_false, Bool.or_true, wrapU, Int.reduceAdd, Int.reduceSub, Int.reduceMul, List.append_assoc, List.length_append, get_mid, get_mid0, set_mid, set_mid0, List.length_set, List.length_cons, List.length_nil, List.cons_append, List.getElem?_append_left, List.set_append_left, get_at, get_at0, set_at, set_at0, List.getElem?_set_self, List.getElem?_set_ne, cfC, a169, hr]
    rw [rnewC, if_neg h]; exact ⟨rfl, rfl⟩
end Go.Am.F10
end
section
namespace Go.Am.F06
set_option maxHeartbeats 4000000 in
theorem rload_eq {m : MM} {wr : Bool} {xs : List Int} {v : AV} (hs : SU m wr xs v) (o : Int) {a : Nat} (ha : a < xs.length) : c_ref06_Load [.agg (memC v o), .int .i64 a] m = some (.tup [.agg (memC v (IntKind.u64.wrap (o + 1))), .int .u64 (xs.getD a 0)], m ++ [.cells 2 false (memC v o), .cells 2 false (memC v (IntKind.u64.wrap (o + 1))), .cells 2 false (memC v o)]) := by
  have he : c_ref06_Load (X := Ob) = amFunc [(72, c_ref06_there)] ref06_Load := rfl
  rw [he]
  have a72 : assoc [(72, c_ref06_there (X := Ob))] 72 = some c_ref06_there := rfl
  generalize [(72, c_ref06_there (X := Ob))] = G at a72
  have hone := slOne hs
  simp only [AV.one] at hone
  have ht := Fn_eq (refthere_run (G := []) (hs.keep (Keep.app m [Chunk.cells 2 false [v, .int .u64 o], .cells 2 false [.nils, .int .u64 0]])) o a)
  rw [thr_b] at ht
  simp only [memC, List.append_assoc, List.cons_append, List.nil_append] at ht
  have h : thr xs a := ⟨by omega, by omega⟩
  obtain ⟨x, hx⟩ : ∃ x, xs[a]? = some x := ⟨_, List.getElem?_eq_getElem (by omega)⟩
  have hd : xs.getD a 0 = x := by rw [List.getD_eq_getElem?_getD, hx]; rfl
  obtain ⟨q, oo, cap, ro, L, rfl, b2, b3, b4, b5, b6⟩ := SU.get hs hx
  have hqm : q < m.length := (List.getElem?_eq_some_iff.1 b2).1
  simp only [h, decide_true] at ht
  rw [hd]
  refine Fn_eq (Fn_of rfl ?_)
  simp (disch := first | assumption | omega | (simp only [List.length_cons, List.length_nil, List.length_set, List.length_append] <;> omega) | (simp only [get_mid, get_mid0, List.cons_append, List.append_assoc, List.getElem?_cons_zero, List.getElem?_cons_succ])) only [ref06_Load, ek, ↓evW, ↓evQ, evB, evS, evL, List.map, AV.cells, List.all, AV.one, Bool.and_true, Bool.true_and, if_true, ↓thenQ_normal, ↓thenQ_exit, ↓thenQ_ret, ↓blockQ_normal, ↓blockQ_ret, ↓blockQ_exit, ↓CW_true, ↓CW_false, CW_true, CW_false, condT, condF, RQ_some, tupA_one, tupA_two, tupA_nil, Nat.reduceSub, Nat.reduceAdd, Nat.reduceMul, Nat.zero_add, Nat.add_zero, Nat.reduceLeDiff, Nat.reduceEqDiff, eqV, eqAll, fillA, and_self, and_true, true_and, Nat.le_refl, Bool.not_true, Bool.not_false, Bool.false_xor, Bool.true_xor, cond_true, cond_false, List.replicate, if_false, reduceIte, resAll, resA, ne_eq, decide_not, decide_true, decide_false, Int.reduceEq, Bool.not_true, Bool.not_false, not_true_eq_false, not_false_eq_true, cond_bool, cond_int, beq_self_eq_true, Int.reduceBEq, Bool.and_self, Bool.and_false, Bool.false_and, Bool.xor_false, Bool.xor_true, loadN_ldC, ldC_none, ldC_somes, stC_aggs, splice, storeN_stC, stC_int, stC_bool, stC_ptr, stC_nilp, stC_sl, stC_nils, getC_gcO, gcO_cells, W_draw_eq, ↓W_scope, ev_clear, evT, evF, evX, evM, ↓exitQ_normal, ↓exitQ_ret, ↓exitQ_exit, saA_self, saO_self, if_pos, if_neg, wrapI, get_concat, set_concat, Int.toNat_natCast, Int.toNat_zero, List.nil_append, Nat.mul_one, decide_eq_true, decide_eq_false, Int.reduceLE, Int.reduceLT, Int.reduceNeg, Bool.false_or, Bool.true_or, Bool.or_false, Bool.or_true, wrapU, Int.reduceAdd, Int.reduceSub, Int.reduceMul, List.append_assoc, List.length_append, get_mid, get_mid0, set_mid, set_mid0, List.length_set, List.length_cons, List.length_nil, List.cons_append, List.getElem?_append_left, List.set_append_left, get_at, get_at0, set_at, set_at0, List.getElem?_set_self, List.getElem?_set_ne, memC, hone, a72, c_ref06_there, ht, b2, b6]
def RcP (m : MM) (xs : List Int) (o a old x : Int) (r : AV) (m' : MM) : Prop := Keep m m' ∧ ∃ v', r = .tup [.agg (memC v' o), .bool (decide (xs.getD a.toNat 0 = old))] ∧ SU m' false (if xs.getD a.toNat 0 = old then xs.set a.toNat x else xs) v'
set_option maxHeartbeats 4000000 in
theorem rcas_run {m : MM} {wr : Bool} {xs : List Int} {v : AV} (hs : SU m wr xs v) (hn : xs.length ≤ 65536) (o : Int) {a : Int} (ha : thr xs a) (old x : Int) : Fn [(72, c_ref06_there), (73, c_ref06_with)] ref06_CAS [.agg (memC v o), .int .i64 a, .int .u64 old, .int .u64 x] m (RcP m xs (IntKind.u64.wrap (o + 1)) a old x) := by
  have a72 : assoc [(72, c_ref06_there (X := Ob)), (73, c_ref06_with)] 72 = some c_ref06_there := rfl
  have a73 : assoc [(72, c_ref06_there (X := Ob)), (73, c_ref06_with)] 73 = some c_ref06_with := rfl
  generalize [(72, c_ref06_there (X := Ob)), (73, c_ref06_with)] = G at a72 a73
  have hone := slOne hs
  simp only [AV.one] at hone
  have ht := Fn_eq (refthere_run (G := []) (hs.keep (Keep.app m [Chunk.cells 2 false [v, .int .u64 o], .cells 2 false [.nils, .int .u64 0]])) o a)
  rw [thr_b] at ht
  simp only [memC, List.append_assoc, List.cons_append, List.nil_append] at ht
  refine Fn_of rfl ?_
  obtain ⟨h0, h1⟩ := id ha
  obtain ⟨k, rfl⟩ : ∃ k : Nat, a = k := ⟨a.toNat, by omega⟩
  obtain ⟨w, hw⟩ : ∃ w, xs[k]? = some w := ⟨_, List.getElem?_eq_getElem (by omega)⟩
  obtain ⟨q, oo, cap, ro, L, rfl, b2, b3, b4, b5, b6⟩ := SU.get hs hw
  have hqm : q < m.length := (List.getElem?_eq_some_iff.1 b2).1
  have hgd : xs.getD k 0 = w := by rw [List.getD_eq_getElem?_getD, hw]; rfl
  simp only [ha, decide_true] at ht
  have hw := refwith_run (G := []) (hs.keep (Keep.app m [Chunk.cells 2 false [.sl q oo xs.length cap, .int .u64 o], .cells 2 false [.nils, .int .u64 0], .cells 2 false [.sl q oo xs.length cap, .int .u64 o]])) hn (a := k) (by omega) o x
  by_cases hwo : w = old
  · subst hwo
    simp (disch := first | assumption | omega | (simp only [List.length_cons, List.length_nil, List.length_set, List.length_append] <;> omega) | (simp only [get_mid, get_mid0, List.cons_append, List.append_assoc, List.getElem?_cons_zero, List.getElem?_cons_succ])) only [ref06_CAS, ek, ↓evW, ↓evQ, evB, evS, evL, List.map, AV.cells, List.all, AV.one, Bool.and_true, Bool.true_and, if_true, ↓thenQ_normal, ↓thenQ_exit, ↓thenQ_ret, ↓blockQ_normal, ↓blockQ_ret, ↓blockQ_exit, ↓CW_true, ↓CW_false, CW_true, CW_false, condT, condF, RQ_some, tupA_one, tupA_two, tupA_nil, Nat.reduceSub, Nat.reduceAdd, Nat.reduceMul, Nat.zero_add, Nat.add_zero, Nat.reduceLeDiff, Nat.reduceEqDiff, eqV, eqAll, fillA, and_self, and_true, true_and, Nat.le_refl, Bool.not_true, Bool.not_false, Bool.false_xor, Bool.true_xor, cond_true, cond_false, List.replicate, if_false, reduceIte, resAll, resA, ne_eq, decide_not, decide_true, decide_false, Int.reduceEq, Bool.not_true, Bool.not_false, not_true_eq_false, not_false_eq_true, cond_bool, cond_int, beq_self_eq_true, Int.reduceBEq, Bool.and_self, Bool.and_false, Bool.false_and, Bool.xor_false, Bool.xor_true, loadN_ldC, ldC_none, ldC_somes, stC_aggs, splice, storeN_stC, stC_int, stC_bool, stC_ptr, stC_nilp, stC_sl, stC_nils, getC_gcO, gcO_cells, W_draw_eq, ↓W_scope, ev_clear, evT, evF, evX, evM, ↓exitQ_normal, ↓exitQ_ret, ↓exitQ_exit, saA_self, saO_self, if_pos, if_neg, wrapI, get_concat, set_concat, Int.toNat_natCast, Int.toNat_zero, List.nil_append, Nat.mul_one, decide_eq_true, decide_eq_false, Int.reduceLE, Int.reduceLT, Int.reduceNeg, Bool.false_or, Bool.true_or, Bool.or_false, Bool.or_true, wrapU, Int.reduceAdd, Int.reduceSub, Int.reduceMul, List.append_assoc, List.length_append, get_mid, get_mid0, set_mid, set_mid0, List.length_set, List.length_cons, List.length_nil, List.cons_append, List.getElem?_append_left, List.set_append_left, get_at, get_at0, set_at, set_at0, List.getElem?_set_self, List.getElem?_set_ne, memC, hone, a72, c_ref06_there, ht, a73, c_ref06_with, b2, b6]
    refine OK_fn hw ?_
    rintro _ m1 ⟨k1, v', rfl, s1⟩
    have g1 : m1[m.length + 1]? = some (.cells 2 false [.nils, .int .u64 0]) := k1.get (by rw [get_mid]; rfl)
    have hl1 : m.length + 1 < m1.length := (List.getElem?_eq_some_iff.1 g1).1
    have hone' := slOne s1
    simp only [AV.one] at hone'
    simp (disch := first | assumption | omega | (simp only [List.length_cons, List.length_nil, List.length_set, List.length_append] <;> omega) | (simp only [get_mid, get_mid0, List.cons_append, List.append_assoc, List.getElem?_cons_zero, List.getElem?_cons_succ])) only [ek, ↓evW, ↓evQ, evB, evS, evL, List.map, AV.cells, List.all, AV.one, Bool.and_true, Bool.true_and, if_true, ↓thenQ_normal, ↓thenQ_exit, ↓thenQ_ret, ↓blockQ_normal, ↓blockQ_ret, ↓blockQ_exit, ↓CW_true, ↓CW_false, CW_true, CW_false, condT, condF, RQ_some, tupA_one, tupA_two, tupA_nil, Nat.reduceSub, Nat.reduceAdd, Nat.reduceMul, Nat.zero_add, Nat.add_zero, Nat.reduceLeDiff, Nat.reduceEqDiff, eqV, eqAll, fillA, and_self, and_true, true_and, Nat.le_refl, Bool.not_true, Bool.not_false, Bool.false_xor, Bool.true_xor, cond_true, cond_false, List.replicate, if_false, reduceIte, resAll, resA, ne_eq, decide_not, decide_true, decide_false, Int.reduceEq, Bool.not_true, Bool.not_false, not_true_eq_false, not_false_eq_true, cond_bool, cond_int, beq_self_eq_true, Int.reduceBEq, Bool.and_self, Bool.and_false, Bool.false_and, Bool.xor_false, Bool.xor_true, loadN_ldC, ldC_none, ldC_somes, stC_aggs, splice, storeN_stC, stC_int, stC_bool, stC_ptr, stC_nilp, stC_sl, stC_nils, getC_gcO, gcO_cells, W_draw_eq, ↓W_scope, ev_clear, evT, evF, evX, evM, ↓exitQ_normal, ↓exitQ_ret, ↓exitQ_exit, saA_self, saO_self, if_pos, if_neg, wrapI, get_concat, set_concat, Int.toNat_natCast, Int.toNat_zero, List.nil_append, Nat.mul_one, decide_eq_true, decide_eq_false, Int.reduceLE, Int.reduceLT, Int.reduceNeg, Bool.false_or, Bool.true_or, Bool.or_false, Bool.or_true, wrapU, Int.reduceAdd, Int.reduceSub, Int.reduceMul, List.append_assoc, List.length_append, get_mid, get_mid0, set_mid, set_mid0, List.length_set, List.length_cons, List.length_nil, List.cons_append, List.getElem?_append_left, List.set_append_left, get_at, get_at0, set_at, set_at0, List.getElem?_set_self, List.getElem?_set_ne, memC, g1, hone']
    refine ⟨((Keep.app m _).trans k1).set (by omega) _, v', ?_, ?_⟩
    · rw [Int.toNat_natCast, hgd, decide_eq_true rfl]; rfl
    · rw [Int.toNat_natCast, hgd, if_pos rfl]; exact (KeepB.at _ _).off (su_box s1 g1) s1
  · simp (disch := first | assumption | omega | (simp only [List.length_cons, List.length_nil, List.length_set, List.length_append] <;> omega) | (simp only [get_mid, get_mid0, List.cons_append, List.append_assoc, List.getElem?_cons_zero, List.getElem?_cons_succ])) only [ref06_CAS, ek, ↓evW, ↓evQ, evB, evS, evL, List.map, AV.cells, List.all, AV.one, Bool.and_true, Bool.true_and, if_true, ↓thenQ_normal, ↓thenQ_exit, ↓thenQ_ret, ↓blockQ_normal, ↓blockQ_ret, ↓blockQ_exit, ↓CW_true, ↓CW_false, CW_true, CW_false, condT, condF, RQ_some, tupA_one, tupA_two, tupA_nil, Nat.reduceSub, Nat.reduceAdd, Nat.reduceMul, Nat.zero_add, Nat.add_zero, Nat.reduceLeDiff, Nat.reduceEqDiff, eqV, eqAll, fillA, and_self, and_true, true_and, Nat.le_refl, Bool.not_true, Bool.not_false, Bool.false_xor, Bool.true_xor, cond_true, cond_false, List.replicate, if_false, reduceIte, resAll, resA, ne_eq, decide_not, decide_true, decide_false, Int.reduceEq, Bool.not_true, Bool.not_false, not_true_eq_false, not_false_eq_true, cond_bool, cond_int, beq_self_eq_true, Int.reduceBEq, Bool.and_self, Bool.and_false, Bool.false_and, Bool.xor_false, Bool.xor_true, loadN_ldC, ldC_none, ldC_somes, stC_aggs, splice, storeN_stC, stC_int, stC_bool, stC_ptr, stC_nilp, stC_sl, stC_nils, getC_gcO, gcO_cells, W_draw_eq, ↓W_scope, ev_clear, evT, evF, evX, evM, ↓exitQ_normal, ↓exitQ_ret, ↓exitQ_exit, saA_self, saO_self, if_pos, if_neg, wrapI, get_concat, set_concat, Int.toNat_natCast, Int.toNat_zero, List.nil_append, Nat.mul_one, decide_eq_true, decide_eq_false, Int.reduceLE, Int.reduceLT, Int.reduceNeg, Bool.false_or, Bool.true_or, Bool.or_false, Bool.or_true, wrapU, Int.reduceAdd, Int.reduceSub, Int.reduceMul, List.append_assoc, List.length_append, get_mid, get_mid0, set_mid, set_mid0, List.length_set, List.length_cons, List.length_nil, List.cons_append, List.getElem?_append_left, List.set_append_left, get_at, get_at0, set_at, set_at0, List.getElem?_set_self, List.getElem?_set_ne, memC, hone, a72, c_ref06_there, ht, b2, b6]
    refine ⟨Keep.app _ _, .sl q oo xs.length cap, ?_, ?_⟩
    · rw [Int.toNat_natCast, hgd, decide_eq_false hwo]; rfl
    · rw [Int.toNat_natCast, hgd, if_neg hwo]; exact (hs.keep (Keep.app _ _)).ro
end Go.Am.F06
namespace Go.Am.F10
open Go.Am.F06
theorem word_at {c : Cf} {p : Int} (h : thereP c p) : wordA c p = addrA c p 0 := by unfold addrA wordA; rw [if_pos h, Int.add_zero]
theorem slot_at {c : Cf} {p : Int} (h : thereP c p) (i : Int) : wordA c p + 6 + i % c.q = slotA c p i := by unfold slotA; rw [if_pos h.1]; unfold addrA wordA; rw [if_pos h]; omega
theorem rslot_eq {X : Type} (m : Mem X) {c : Cf} {p : Int} (h : thereP c p) {i : Int} (hi : 0 ≤ i) (hi2 : i < 4294967296) : c_ref09_Slot [.agg (cfC c), .int .i64 p, .int .u32 i] m = some (.int .i64 (slotA c p i), m ++ [.cells 6 false (cfC c), .cells 6 false (cfC c)]) := by
  have a172 : assoc [(172, c_ref09_Word (X := X))] 172 = some c_ref09_Word := rfl
  have he : c_ref09_Slot (X := X) = amFunc [(172, c_ref09_Word)] ref09_Slot := rfl
  rw [he]
  generalize [(172, c_ref09_Word (X := X))] = G at a172 ⊢
  have hb := there_bounds h
  have hw := fun m : Mem X => rword_eq m h
  have hwa := addr_b h (i := 0) (by omega) (by omega)
  rw [← word_at h] at hwa
  have hcn := cellsN_le c
  have h0 := Int.emod_nonneg i (b := c.q) (by omega)
  have h1 := Int.emod_lt_of_pos i (b := c.q) (by omega)
  have e0 : IntKind.u32.wrap c.q = c.q := by rw [wrap32]; omega
  have e1 : i.tmod c.q = i % c.q := Int.tmod_eq_emod_of_nonneg hi
  have e2 : IntKind.i64.wrap (i % c.q) = i % c.q := wrapI (by omega) (by omega)
  have e3 : IntKind.i64.wrap (wordA c p + 6) = wordA c p + 6 := wrapI (by omega) (by omega)
  have e4 : IntKind.i64.wrap (wordA c p + 6 + i % c.q) = slotA c p i := by rw [wrapI (by omega) (by omega)]; exact slot_at h i
  have e5 : ¬ (c.q = 0) := by omega
  simp only [cfC] at hw
  refine Fn_eq (Fn_of rfl ?_)
  simp (disch := first | assumption | omega | (simp only [List.length_cons, List.length_nil, List.length_set, List.length_append] <;> omega) | (simp only [get_mid, get_mid0, List.cons_append, List.append_assoc, List.getElem?_cons_zero, List.getElem?_cons_succ])) only [ref09_Slot, ek, ↓evW, ↓evQ, evB, evS, evL, List.map, AV.cells, List.all, AV.one, Bool.and_true, Bool.true_and, if_true, ↓thenQ_normal, ↓thenQ_exit, ↓thenQ_ret, ↓blockQ_normal, ↓blockQ_ret, ↓blockQ_exit, ↓CW_true, ↓CW_false, CW_true, CW_false, condT, condF, RQ_some, tupA_one, tupA_two, tupA_nil, Nat.reduceSub, Nat.reduceAdd, Nat.reduceMul, Nat.zero_add, Nat.add_zero, Nat.reduceLeDiff, Nat.reduceEqDiff, eqV, eqAll, fillA, and_self, and_true, true_and, Nat.le_refl, Bool.not_true, Bool.not_false, Bool.false_xor, Bool.true_xor, cond_true, cond_false, List.replicate, if_false, reduceIte, resAll, resA, ne_eq, decide_not, decide_true, decide_false, Int.reduceEq, Bool.not_true, Bool.not_false, not_true_eq_false, not_false_eq_true, cond_bool, cond_int, beq_self_eq_true, Int.reduceBEq, Bool.and_self, Bool.and_false, Bool.false_and, Bool.xor_false, Bool.xor_true, loadN_ldC, ldC_none, ldC_somes, stC_aggs, splice, storeN_stC, stC_int, stC_bool, stC_ptr, stC_nilp, stC_sl, stC_nils, getC_gcO, gcO_cells, W_draw_eq, ↓W_scope, ev_clear, evT, evF, evX, evM, ↓exitQ_normal, ↓exitQ_ret, ↓exitQ_exit, saA_self, saO_self, if_pos, if_neg, wrapI, get_concat, set_concat, Int.toNat_natCast, Int.toNat_zero, List.nil_append, Nat.mul_one, decide_eq_true, decide_eq_false, Int.reduceLE, Int.reduceLT, Int.reduceNeg, Bool.false_or, Bool.true_or, Bool.or_false, Bool.or_true, wrapU, Int.reduceAdd, Int.reduceSub, Int.reduceMul, List.append_assoc, List.length_append, get_mid, get_mid0, set_mid, set_mid0, List.length_set, List.length_cons, List.length_nil, List.cons_append, List.getElem?_append_left, List.set_append_left, get_at, get_at0, set_at, set_at0, List.getElem?_set_self, List.getElem?_set_ne, cfC, a172, hw, e0, e5, e1, e2, e3, e4]
structure SUN (lo hi : Nat) (m : MM) (wr : Bool) (xs : List Int) (v : AV) : Prop where
  su : SU m wr xs v
  no : ∀ b, lo ≤ b → b < hi → ∀ ro L, m[b]? ≠ some (.cells 1 ro L)
theorem SUN.set {lo hi : Nat} {m : MM} {wr : Bool} {xs : List Int} {v : AV} (h : SUN lo hi m wr xs v) {a : Nat} (h1 : lo ≤ a) (h2 : a < hi) {C : Chunk Ob} (hC : ∀ ro L, C ≠ .cells 1 ro L) : SUN lo hi (m.set a C) wr xs v := by
  refine ⟨(KeepB.at _ _).off (fun q o n c hv h0 hq => ?_) h.su, fun b b1 b2 ro L hb => ?_⟩
  · rcases h.su.2 with ⟨h3, _⟩ | ⟨q2, o2, c2, h3, h4⟩
    · rw [h3] at hv; cases hv
    · rw [h3] at hv; injection hv with e1 e2 e3 e4; subst e1; subst e3; subst hq
      obtain ⟨ro, L, h5, _⟩ := h4 h0
      exact h.no _ h1 h2 _ _ h5
  · by_cases hab : a = b
    · subst hab
      by_cases hl : a < m.length
      · rw [List.getElem?_set_self hl] at hb; injection hb with hb; exact hC _ _ hb
      · rw [List.getElem?_eq_none (by rw [List.length_set]; omega)] at hb; cases hb
    · rw [List.getElem?_set_ne hab] at hb; exact h.no b b1 b2 _ _ hb
structure GS where
  a : Int
  w : Int
  seen : Int
  has : Bool
  tries : Int
def gC (c : Cf) (p : Int) (s : GS) : List AV := getC c p s.a s.w s.seen s.has s.tries
def rC (c : Cf) (p : Int) (s : GS) : List AV := rgC c p s.a s.w s.seen (if s.has then s.seen else 0) s.has s.tries
structure GOk (c : Cf) (p : Int) (s : GS) : Prop where
  w : W64 s.w
  a : s.a = 0 ∨ (thereP c p ∧ (s.a = 1 ∨ s.a = 2 ∨ s.a = 3))
  has : s.has = true → s.a = 0
def wrdN (c : Cf) (p : Int) : Nat := (addrA c p 0).toNat
def sltN (c : Cf) (p w : Int) : Nat := (slotA c p (hd w)).toNat
def stepG (c : Cf) (p : Int) (xs : List Int) (s : GS) : GS × List Int :=
  if s.a = 1 then ({ s with w := xs.getD (wrdN c p) 0, a := if sz (xs.getD (wrdN c p) 0) = 0 ∨ c.q < sz (xs.getD (wrdN c p) 0) then 0 else 2 }, xs)
  else if s.a = 2 then ({ s with seen := IntKind.i64.wrap (xs.getD (sltN c p s.w) 0), a := 3 }, xs)
  else if s.a = 3 then if xs.getD (wrdN c p) 0 = s.w then ({ s with has := true, a := 0 }, xs.set (wrdN c p) (gainW s.w)) else ({ s with tries := IntKind.i64.wrap (s.tries + 1), a := 1 }, xs)
  else (s, xs)
def opsG (s : GS) (o : Int) : Int := if s.a = 0 then o else IntKind.u64.wrap (o + 1)
theorem getD_64 {xs : List Int} (h : ∀ x, x ∈ xs → W64 x) (i : Nat) : W64 (xs.getD i 0) := by
  rw [List.getD_eq_getElem?_getD]
  cases hx : xs[i]? with
  | none => unfold W64; simp
  | some x => exact h x (List.mem_of_getElem? hx)
theorem gain_64 (w : Int) : W64 (gainW w) := by
  have := tl_b w
  unfold gainW pk W64; omega
theorem stepG_ok {c d : Cf} {p : Int} {s : GS} {xs : List Int} (hx : OkL d xs) : OkL d (stepG c p xs s).2 := by
  unfold stepG
  split
  · exact hx
  · split
    · exact hx
    · split
      · split
        · exact hx.set _ (gain_64 _)
        · exact hx
      · exact hx
theorem stepG_zero {c : Cf} {p : Int} {s : GS} (h : s.a = 0) (xs : List Int) : stepG c p xs s = (s, xs) := by
  unfold stepG; rw [if_neg (by omega), if_neg (by omega), if_neg (by omega)]
theorem GOk.step {c : Cf} {p : Int} {s : GS} {xs : List Int} (h : GOk c p s) (hx : s.a = 0 ∨ OkL c xs) : GOk c p (stepG c p xs s).1 := by
  rcases hx with h0 | hx
  · rw [stepG_zero h0]; exact h
  obtain ⟨h1, h2, h3⟩ := h
  have hg := getD_64 hx.2 (wrdN c p)
  unfold stepG
  split
  · refine ⟨hg, ?_, fun hh => ?_⟩
    · by_cases hz : sz (xs.getD (wrdN c p) 0) = 0 ∨ c.q < sz (xs.getD (wrdN c p) 0)
      · exact .inl (if_pos hz)
      · refine .inr ⟨?_, .inr (.inl (if_neg hz))⟩
        rcases h2 with h2 | h2
        · omega
        · exact h2.1
    · have := h3 hh; omega
  · split
    · refine ⟨h1, .inr ⟨?_, .inr (.inr rfl)⟩, fun hh => ?_⟩
      · rcases h2 with h2 | h2
        · omega
        · exact h2.1
      · have := h3 hh; omega
    · split
      · split
        · exact ⟨h1, .inl rfl, fun _ => rfl⟩
        · refine ⟨h1, .inr ⟨?_, .inl rfl⟩, fun hh => ?_⟩
          · rcases h2 with h2 | h2
            · omega
            · exact h2.1
          · have := h3 hh; omega
      · exact ⟨h1, h2, h3⟩
theorem has_next {c : Cf} {p : Int} {s : GS} {xs : List Int} (h : GOk c p s) : (stepG c p xs s).1.has = (s.has || (decide (s.a = 3) && decide ((stepG c p xs s).1.a = 0))) := by
  unfold stepG
  by_cases h1 : s.a = 1
  · simp [h1]
  · by_cases h2 : s.a = 2
    · simp [h2]
    · by_cases h3 : s.a = 3
      · by_cases hx : xs.getD (wrdN c p) 0 = s.w
        · simp only [h3, hx, if_true, if_neg (show ¬ ((3 : Int) = 1) by decide), if_neg (show ¬ ((3 : Int) = 2) by decide)]; simp
        · simp only [h3, if_true, if_neg hx, if_neg (show ¬ ((3 : Int) = 1) by decide), if_neg (show ¬ ((3 : Int) = 2) by decide)]; simp
      · simp [h1, h2, h3]
def RsP (m : MM) (c : Cf) (p : Int) (x : GS × List Int) (o : Int) (r : AV) (m' : MM) : Prop := Keep m m' ∧ ∃ v', r = .tup [.agg (rC c p x.1), .agg (memC v' o)] ∧ SU m' false x.2 v'
def Grst : List (Nat × AFun Ob) := [(170, c_ref09_Head), (171, c_ref09_Tail), (172, c_ref09_Word), (64, F06.c_ref06_Load), (173, c_ref09_Size), (174, c_ref09_Slot), (175, c_ref09_Pack), (66, F06.c_ref06_CAS)]
set_option maxHeartbeats 8000000 in
theorem rstep_run {m : MM} {wr : Bool} {c : Cf} {p o : Int} {s : GS} {xs : List Int} {v : AV} (hs : SU m wr xs v) (hok : GOk c p s) (hx0 : s.a = 0 ∨ OkL c xs) :
    Fn Grst ref10_Step [.agg (rC c p s), .agg (memC v o)] m (RsP m c p (stepG c p xs s) (opsG s o)) := by
  have a170 : assoc Grst 170 = some c_ref09_Head := rfl
  have a171 : assoc Grst 171 = some c_ref09_Tail := rfl
  have a172 : assoc Grst 172 = some c_ref09_Word := rfl
  have a64 : assoc Grst 64 = some F06.c_ref06_Load := rfl
  have a173 : assoc Grst 173 = some c_ref09_Size := rfl
  have a174 : assoc Grst 174 = some c_ref09_Slot := rfl
  have a175 : assoc Grst 175 = some c_ref09_Pack := rfl
  have a66 : assoc Grst 66 = some F06.c_ref06_CAS := rfl
  generalize Grst = G at a170 a171 a172 a64 a173 a174 a175 a66 ⊢
  have hone := slOne hs
  simp only [AV.one] at hone
  obtain ⟨a, w, seen, has, tries⟩ := s
  obtain ⟨hw, hok1, hok2⟩ := hok
  simp only at hw hok1 hok2
  have hh := fun m : MM => rhead_eq m hw
  have ht := fun m : MM => rtail_eq m hw
  have hcn := cellsN_le c
  refine Fn_of rfl ?_
  rcases hok1 with rfl | ⟨hth, rfl | rfl | rfl⟩
  · have e : stepG c p xs ⟨0, w, seen, has, tries⟩ = (⟨0, w, seen, has, tries⟩, xs) := rfl
    have e2 : opsG ⟨0, w, seen, has, tries⟩ o = o := rfl
    rw [e, e2]
    simp (disch := first | assumption | omega | (simp only [List.length_cons, List.length_nil, List.length_set, List.length_append] <;> omega) | (simp only [get_mid, get_mid0, List.cons_append, List.append_assoc, List.getElem?_cons_zero, List.getElem?_cons_succ])) only [ref10_Step, ek, ↓evW, ↓evQ, evB, evS, evL, List.map, AV.cells, List.all, AV.one, Bool.and_true, Bool.true_and, if_true, ↓thenQ_normal, ↓thenQ_exit, ↓thenQ_ret, ↓blockQ_normal, ↓blockQ_ret, ↓blockQ_exit, ↓CW_true, ↓CW_false, CW_true, CW_false, condT, condF, RQ_some, tupA_one, tupA_two, tupA_nil, Nat.reduceSub, Nat.reduceAdd, Nat.reduceMul, Nat.zero_add, Nat.add_zero, Nat.reduceLeDiff, Nat.reduceEqDiff, eqV, eqAll, fillA, and_self, and_true, true_and, Nat.le_refl, Bool.not_true, Bool.not_false, Bool.false_xor, Bool.true_xor, cond_true, cond_false, List.replicate, if_false, reduceIte, resAll, resA, ne_eq, decide_not, decide_true, decide_false, Int.reduceEq, Bool.not_true, Bool.not_false, not_true_eq_false, not_false_eq_true, cond_bool, cond_int, beq_self_eq_true, Int.reduceBEq, Bool.and_self, Bool.and_false, Bool.false_and, Bool.xor_false, Bool.xor_true, loadN_ldC, ldC_none, ldC_somes, stC_aggs, splice, storeN_stC, stC_int, stC_bool, stC_ptr, stC_nilp, stC_sl, stC_nils, getC_gcO, gcO_cells, W_draw_eq, ↓W_scope, ev_clear, evT, evF, evX, evM, ↓exitQ_normal, ↓exitQ_ret, ↓exitQ_exit, saA_self, saO_self, if_pos, if_neg, wrapI, get_concat, set_concat, Int.toNat_natCast, Int.toNat_zero, List.nil_append, Nat.mul_one, decide_eq_true, decide_eq_false, Int.reduceLE, Int.reduceLT, Int.reduceNeg, Bool.false_or, Bool.true_or, Bool.or_false, Bool.or_true, wrapU, Int.reduceAdd, Int.reduceSub, Int.reduceMul, List.append_assoc, List.length_append, get_mid, get_mid0, set_mid, set_mid0, List.length_set, List.length_cons, List.length_nil, List.cons_append, List.getElem?_append_left, List.set_append_left, get_at, get_at0, set_at, set_at0, List.getElem?_set_self, List.getElem?_set_ne, rC, rgC, cfC, memC, hone, a170, hh, a171, ht]
    exact ⟨Keep.app _ _, v, rfl, (hs.keep (Keep.app _ _)).ro⟩
  all_goals have hx : OkL c xs := hx0.resolve_left (by simp)
  all_goals have hxl := hx.1
  all_goals have hb := there_bounds hth
  all_goals have ha0 := addr_b hth (i := 0) (by omega) (by omega)
  all_goals have hrw := fun m : MM => rword_eq m hth
  all_goals simp only [word_at hth, cfC] at hrw
  all_goals have hwn : ((wrdN c p : Nat) : Int) = addrA c p 0 := by unfold wrdN; omega
  all_goals have hthr : thr xs (addrA c p 0) := ⟨by omega, by omega⟩
  all_goals have hwt : (addrA c p 0).toNat = wrdN c p := rfl
  · have hn : has = false := by cases has with | false => rfl | true => exact absurd (hok2 rfl) (by omega)
    subst hn
    have hg := getD_64 hx.2 (wrdN c p)
    have hrl := fun K : MM => rload_eq (hs.keep (Keep.app m K)) o (a := wrdN c p) (by omega)
    rw [hwn] at hrl
    generalize he : stepG c p xs ⟨1, w, seen, false, tries⟩ = st
    generalize ho : opsG ⟨1, w, seen, false, tries⟩ o = o'
    simp only [opsG] at ho
    simp only [stepG] at he
    generalize xs.getD (wrdN c p) 0 = w' at hg hrl he
    rw [if_pos trivial] at he
    simp only [memC, List.append_assoc, List.cons_append, List.nil_append] at hrl
    have hz := fun m : MM => rsize_eq m hg
    have e0 : IntKind.u32.wrap c.q = c.q := by rw [wrap32]; omega
    simp (disch := first | assumption | omega | (simp only [List.length_cons, List.length_nil, List.length_set, List.length_append] <;> omega) | (simp only [get_mid, get_mid0, List.cons_append, List.append_assoc, List.getElem?_cons_zero, List.getElem?_cons_succ])) only [ref10_Step, ek, ↓evW, ↓evQ, evB, evS, evL, List.map, AV.cells, List.all, AV.one, Bool.and_true, Bool.true_and, if_true, ↓thenQ_normal, ↓thenQ_exit, ↓thenQ_ret, ↓blockQ_normal, ↓blockQ_ret, ↓blockQ_exit, ↓CW_true, ↓CW_false, CW_true, CW_false, condT, condF, RQ_some, tupA_one, tupA_two, tupA_nil, Nat.reduceSub, Nat.reduceAdd, Nat.reduceMul, Nat.zero_add, Nat.add_zero, Nat.reduceLeDiff, Nat.reduceEqDiff, eqV, eqAll, fillA, and_self, and_true, true_and, Nat.le_refl, Bool.not_true, Bool.not_false, Bool.false_xor, Bool.true_xor, cond_true, cond_false, List.replicate, if_false, reduceIte, resAll, resA, ne_eq, decide_not, decide_true, decide_false, Int.reduceEq, Bool.not_true, Bool.not_false, not_true_eq_false, not_false_eq_true, cond_bool, cond_int, beq_self_eq_true, Int.reduceBEq, Bool.and_self, Bool.and_false, Bool.false_and, Bool.xor_false, Bool.xor_true, loadN_ldC, ldC_none, ldC_somes, stC_aggs, splice, storeN_stC, stC_int, stC_bool, stC_ptr, stC_nilp, stC_sl, stC_nils, getC_gcO, gcO_cells, W_draw_eq, ↓W_scope, ev_clear, evT, evF, evX, evM, ↓exitQ_normal, ↓exitQ_ret, ↓exitQ_exit, saA_self, saO_self, if_pos, if_neg, wrapI, get_concat, set_concat, Int.toNat_natCast, Int.toNat_zero, List.nil_append, Nat.mul_one, decide_eq_true, decide_eq_false, Int.reduceLE, Int.reduceLT, Int.reduceNeg, Bool.false_or, Bool.true_or, Bool.or_false, Bool.or_true, wrapU, Int.reduceAdd, Int.reduceSub, Int.reduceMul, List.append_assoc, List.length_append, get_mid, get_mid0, set_mid, set_mid0, List.length_set, List.length_cons, List.length_nil, List.cons_append, List.getElem?_append_left, List.set_append_left, get_at, get_at0, set_at, set_at0, List.getElem?_set_self, List.getElem?_set_ne, rC, rgC, cfC, memC, hone, a170, hh, a171, ht, a172, hrw, a64, hrl, a173, hz, e0]
    by_cases h0 : sz w' = 0
    · have hb : (sz w' = 0 ∨ c.q < sz w') := .inl h0
      simp only [if_pos hb] at he
      subst he
      simp (disch := first | assumption | omega | (simp only [List.length_cons, List.length_nil, List.length_set, List.length_append] <;> omega) | (simp only [get_mid, get_mid0, List.cons_append, List.append_assoc, List.getElem?_cons_zero, List.getElem?_cons_succ])) only [ek, ↓evW, ↓evQ, evB, evS, evL, List.map, AV.cells, List.all, AV.one, Bool.and_true, Bool.true_and, if_true, ↓thenQ_normal, ↓thenQ_exit, ↓thenQ_ret, ↓blockQ_normal, ↓blockQ_ret, ↓blockQ_exit, ↓CW_true, ↓CW_false, CW_true, CW_false, condT, condF, RQ_some, tupA_one, tupA_two, tupA_nil, Nat.reduceSub, Nat.reduceAdd, Nat.reduceMul, Nat.zero_add, Nat.add_zero, Nat.reduceLeDiff, Nat.reduceEqDiff, eqV, eqAll, fillA, and_self, and_true, true_and, Nat.le_refl, Bool.not_true, Bool.not_false, Bool.false_xor, Bool.true_xor, cond_true, cond_false, List.replicate, if_false, reduceIte, resAll, resA, ne_eq, decide_not, decide_true, decide_false, Int.reduceEq, Bool.not_true, Bool.not_false, not_true_eq_false, not_false_eq_true, cond_bool, cond_int, beq_self_eq_true, Int.reduceBEq, Bool.and_self, Bool.and_false, Bool.false_and, Bool.xor_false, Bool.xor_true, loadN_ldC, ldC_none, ldC_somes, stC_aggs, splice, storeN_stC, stC_int, stC_bool, stC_ptr, stC_nilp, stC_sl, stC_nils, getC_gcO, gcO_cells, W_draw_eq, ↓W_scope, ev_clear, evT, evF, evX, evM, ↓exitQ_normal, ↓exitQ_ret, ↓exitQ_exit, saA_self, saO_self, if_pos, if_neg, wrapI, get_concat, set_concat, Int.toNat_natCast, Int.toNat_zero, List.nil_append, Nat.mul_one, decide_eq_true, decide_eq_false, Int.reduceLE, Int.reduceLT, Int.reduceNeg, Bool.false_or, Bool.true_or, Bool.or_false, Bool.or_true, wrapU, Int.reduceAdd, Int.reduceSub, Int.reduceMul, List.append_assoc, List.length_append, get_mid, get_mid0, set_mid, set_mid0, List.length_set, List.length_cons, List.length_nil, List.cons_append, List.getElem?_append_left, List.set_append_left, get_at, get_at0, set_at, set_at0, List.getElem?_set_self, List.getElem?_set_ne, h0]
      exact ⟨Keep.app _ _, v, by rw [← ho]; rfl, (hs.keep (Keep.app _ _)).ro⟩
    · by_cases h1 : c.q < sz w'
      · have hb : (sz w' = 0 ∨ c.q < sz w') := .inr h1
        simp only [if_pos hb] at he
        subst he
        simp (disch := first | assumption | omega | (simp only [List.length_cons, List.length_nil, List.length_set, List.length_append] <;> omega) | (simp only [get_mid, get_mid0, List.cons_append, List.append_assoc, List.getElem?_cons_zero, List.getElem?_cons_succ])) only [ek, ↓evW, ↓evQ, evB, evS, evL, List.map, AV.cells, List.all, AV.one, Bool.and_true, Bool.true_and, if_true, ↓thenQ_normal, ↓thenQ_exit, ↓thenQ_ret, ↓blockQ_normal, ↓blockQ_ret, ↓blockQ_exit, ↓CW_true, ↓CW_false, CW_true, CW_false, condT, condF, RQ_some, tupA_one, tupA_two, tupA_nil, Nat.reduceSub, Nat.reduceAdd, Nat.reduceMul, Nat.zero_add, Nat.add_zero, Nat.reduceLeDiff, Nat.reduceEqDiff, eqV, eqAll, fillA, and_self, and_true, true_and, Nat.le_refl, Bool.not_true, Bool.not_false, Bool.false_xor, Bool.true_xor, cond_true, cond_false, List.replicate, if_false, reduceIte, resAll, resA, ne_eq, decide_not, decide_true, decide_false, Int.reduceEq, Bool.not_true, Bool.not_false, not_true_eq_false, not_false_eq_true, cond_bool, cond_int, beq_self_eq_true, Int.reduceBEq, Bool.and_self, Bool.and_false, Bool.false_and, Bool.xor_false, Bool.xor_true, loadN_ldC, ldC_none, ldC_somes, stC_aggs, splice, storeN_stC, stC_int, stC_bool, stC_ptr, stC_nilp, stC_sl, stC_nils, getC_gcO, gcO_cells, W_draw_eq, ↓W_scope, ev_clear, evT, evF, evX, evM, ↓exitQ_normal, ↓exitQ_ret, ↓exitQ_exit, saA_self, saO_self, if_pos, if_neg, wrapI, get_concat, set_concat, Int.toNat_natCast, Int.toNat_zero, List.nil_append, Nat.mul_one, decide_eq_true, decide_eq_false, Int.reduceLE, Int.reduceLT, Int.reduceNeg, Bool.false_or, Bool.true_or, Bool.or_false, Bool.or_true, wrapU, Int.reduceAdd, Int.reduceSub, Int.reduceMul, List.append_assoc, List.length_append, get_mid, get_mid0, set_mid, set_mid0, List.length_set, List.length_cons, List.length_nil, List.cons_append, List.getElem?_append_left, List.set_append_left, get_at, get_at0, set_at, set_at0, List.getElem?_set_self, List.getElem?_set_ne, h0, h1, e0]
        exact ⟨Keep.app _ _, v, by rw [← ho]; rfl, (hs.keep (Keep.app _ _)).ro⟩
      · have hb : ¬ (sz w' = 0 ∨ c.q < sz w') := fun h => h.elim h0 h1
        simp only [if_neg hb] at he
        subst he
        simp (disch := first | assumption | omega | (simp only [List.length_cons, List.length_nil, List.length_set, List.length_append] <;> omega) | (simp only [get_mid, get_mid0, List.cons_append, List.append_assoc, List.getElem?_cons_zero, List.getElem?_cons_succ])) only [ek, ↓evW, ↓evQ, evB, evS, evL, List.map, AV.cells, List.all, AV.one, Bool.and_true, Bool.true_and, if_true, ↓thenQ_normal, ↓thenQ_exit, ↓thenQ_ret, ↓blockQ_normal, ↓blockQ_ret, ↓blockQ_exit, ↓CW_true, ↓CW_false, CW_true, CW_false, condT, condF, RQ_some, tupA_one, tupA_two, tupA_nil, Nat.reduceSub, Nat.reduceAdd, Nat.reduceMul, Nat.zero_add, Nat.add_zero, Nat.reduceLeDiff, Nat.reduceEqDiff, eqV, eqAll, fillA, and_self, and_true, true_and, Nat.le_refl, Bool.not_true, Bool.not_false, Bool.false_xor, Bool.true_xor, cond_true, cond_false, List.replicate, if_false, reduceIte, resAll, resA, ne_eq, decide_not, decide_true, decide_false, Int.reduceEq, Bool.not_true, Bool.not_false, not_true_eq_false, not_false_eq_true, cond_bool, cond_int, beq_self_eq_true, Int.reduceBEq, Bool.and_self, Bool.and_false, Bool.false_and, Bool.xor_false, Bool.xor_true, loadN_ldC, ldC_none, ldC_somes, stC_aggs, splice, storeN_stC, stC_int, stC_bool, stC_ptr, stC_nilp, stC_sl, stC_nils, getC_gcO, gcO_cells, W_draw_eq, ↓W_scope, ev_clear, evT, evF, evX, evM, ↓exitQ_normal, ↓exitQ_ret, ↓exitQ_exit, saA_self, saO_self, if_pos, if_neg, wrapI, get_concat, set_concat, Int.toNat_natCast, Int.toNat_zero, List.nil_append, Nat.mul_one, decide_eq_true, decide_eq_false, Int.reduceLE, Int.reduceLT, Int.reduceNeg, Bool.false_or, Bool.true_or, Bool.or_false, Bool.or_true, wrapU, Int.reduceAdd, Int.reduceSub, Int.reduceMul, List.append_assoc, List.length_append, get_mid, get_mid0, set_mid, set_mid0, List.length_set, List.length_cons, List.length_nil, List.cons_append, List.getElem?_append_left, List.set_append_left, get_at, get_at0, set_at, set_at0, List.getElem?_set_self, List.getElem?_set_ne, h0, h1, e0]
        exact ⟨Keep.app _ _, v, by rw [← ho]; rfl, (hs.keep (Keep.app _ _)).ro⟩
  · have hn : has = false := by cases has with | false => rfl | true => exact absurd (hok2 rfl) (by omega)
    subst hn
    have hhb := hd_b hw
    have hsb := slot_b hth hhb.1
    have hsn : ((sltN c p w : Nat) : Int) = slotA c p (hd w) := by unfold sltN; omega
    have hrl := fun K : MM => rload_eq (hs.keep (Keep.app m K)) o (a := sltN c p w) (by omega)
    rw [hsn] at hrl
    generalize he : stepG c p xs ⟨2, w, seen, false, tries⟩ = st
    generalize ho : opsG ⟨2, w, seen, false, tries⟩ o = o'
    simp only [opsG] at ho
    simp only [stepG] at he
    generalize xs.getD (sltN c p w) 0 = w' at he hrl
    simp only [memC, List.append_assoc, List.cons_append, List.nil_append] at hrl
    have hsl := fun m : MM => rslot_eq m hth hhb.1 hhb.2
    simp only [cfC] at hsl
    simp (disch := first | assumption | omega | (simp only [List.length_cons, List.length_nil, List.length_set, List.length_append] <;> omega) | (simp only [get_mid, get_mid0, List.cons_append, List.append_assoc, List.getElem?_cons_zero, List.getElem?_cons_succ])) only [ref10_Step, ek, ↓evW, ↓evQ, evB, evS, evL, List.map, AV.cells, List.all, AV.one, Bool.and_true, Bool.true_and, if_true, ↓thenQ_normal, ↓thenQ_exit, ↓thenQ_ret, ↓blockQ_normal, ↓blockQ_ret, ↓blockQ_exit, ↓CW_true, ↓CW_false, CW_true, CW_false, condT, condF, RQ_some, tupA_one, tupA_two, tupA_nil, Nat.reduceSub, Nat.reduceAdd, Nat.reduceMul, Nat.zero_add, Nat.add_zero, Nat.reduceLeDiff, Nat.reduceEqDiff, eqV, eqAll, fillA, and_self, and_true, true_and, Nat.le_refl, Bool.not_true, Bool.not_false, Bool.false_xor, Bool.true_xor, cond_true, cond_false, List.replicate, if_false, reduceIte, resAll, resA, ne_eq, decide_not, decide_true, decide_false, Int.reduceEq, Bool.not_true, Bool.not_false, not_true_eq_false, not_false_eq_true, cond_bool, cond_int, beq_self_eq_true, Int.reduceBEq, Bool.and_self, Bool.and_false, Bool.false_and, Bool.xor_false, Bool.xor_true, loadN_ldC, ldC_none, ldC_somes, stC_aggs, splice, storeN_stC, stC_int, stC_bool, stC_ptr, stC_nilp, stC_sl, stC_nils, getC_gcO, gcO_cells, W_draw_eq, ↓W_scope, ev_clear, evT, evF, evX, evM, ↓exitQ_normal, ↓exitQ_ret, ↓exitQ_exit, saA_self, saO_self, if_pos, if_neg, wrapI, get_concat, set_concat, Int.toNat_natCast, Int.toNat_zero, List.nil_append, Nat.mul_one, decide_eq_true, decide_eq_false, Int.reduceLE, Int.reduceLT, Int.reduceNeg, Bool.false_or, Bool.true_or, Bool.or_false, Bool.or_true, wrapU, Int.reduceAdd, Int.reduceSub, Int.reduceMul, List.append_assoc, List.length_append, get_mid, get_mid0, set_mid, set_mid0, List.length_set, List.length_cons, List.length_nil, List.cons_append, List.getElem?_append_left, List.set_append_left, get_at, get_at0, set_at, set_at0, List.getElem?_set_self, List.getElem?_set_ne, rC, rgC, cfC, memC, hone, a170, hh, a171, ht, a174, hsl, a64, hrl]
    rw [if_neg (by decide), if_pos trivial] at he
    subst he
    exact ⟨Keep.app _ _, v, by rw [← ho]; rfl, (hs.keep (Keep.app _ _)).ro⟩
  · have hn : has = false := by cases has with | false => rfl | true => exact absurd (hok2 rfl) (by omega)
    subst hn
    have hhb := hd_b hw
    have htb := tl_b w
    have e1 : IntKind.u32.wrap (hd w + 1) = (hd w + 1) % 4294967296 := wrap32 _
    have hpk := fun m : MM => rpack_eq m (h := (hd w + 1) % 4294967296) (t := tl w) (by omega) (by omega) htb.1 htb.2
    have hgw : pk ((hd w + 1) % 4294967296) (tl w) = gainW w := rfl
    generalize he : stepG c p xs ⟨3, w, seen, false, tries⟩ = st
    generalize ho : opsG ⟨3, w, seen, false, tries⟩ o = o'
    simp only [opsG] at ho
    simp only [stepG] at he
    simp (disch := first | assumption | omega | (simp only [List.length_cons, List.length_nil, List.length_set, List.length_append] <;> omega) | (simp only [get_mid, get_mid0, List.cons_append, List.append_assoc, List.getElem?_cons_zero, List.getElem?_cons_succ])) only [ref10_Step, ek, ↓evW, ↓evQ, evB, evS, evL, List.map, AV.cells, List.all, AV.one, Bool.and_true, Bool.true_and, if_true, ↓thenQ_normal, ↓thenQ_exit, ↓thenQ_ret, ↓blockQ_normal, ↓blockQ_ret, ↓blockQ_exit, ↓CW_true, ↓CW_false, CW_true, CW_false, condT, condF, RQ_some, tupA_one, tupA_two, tupA_nil, Nat.reduceSub, Nat.reduceAdd, Nat.reduceMul, Nat.zero_add, Nat.add_zero, Nat.reduceLeDiff, Nat.reduceEqDiff, eqV, eqAll, fillA, and_self, and_true, true_and, Nat.le_refl, Bool.not_true, Bool.not_false, Bool.false_xor, Bool.true_xor, cond_true, cond_false, List.replicate, if_false, reduceIte, resAll, resA, ne_eq, decide_not, decide_true, decide_false, Int.reduceEq, Bool.not_true, Bool.not_false, not_true_eq_false, not_false_eq_true, cond_bool, cond_int, beq_self_eq_true, Int.reduceBEq, Bool.and_self, Bool.and_false, Bool.false_and, Bool.xor_false, Bool.xor_true, loadN_ldC, ldC_none, ldC_somes, stC_aggs, splice, storeN_stC, stC_int, stC_bool, stC_ptr, stC_nilp, stC_sl, stC_nils, getC_gcO, gcO_cells, W_draw_eq, ↓W_scope, ev_clear, evT, evF, evX, evM, ↓exitQ_normal, ↓exitQ_ret, ↓exitQ_exit, saA_self, saO_self, if_pos, if_neg, wrapI, get_concat, set_concat, Int.toNat_natCast, Int.toNat_zero, List.nil_append, Nat.mul_one, decide_eq_true, decide_eq_false, Int.reduceLE, Int.reduceLT, Int.reduceNeg, Bool.false_or, Bool.true_or, Bool.or_false, Bool.or_true, wrapU, Int.reduceAdd, Int.reduceSub, Int.reduceMul, List.append_assoc, List.length_append, get_mid, get_mid0, set_mid, set_mid0, List.length_set, List.length_cons, List.length_nil, List.cons_append, List.getElem?_append_left, List.set_append_left, get_at, get_at0, set_at, set_at0, List.getElem?_set_self, List.getElem?_set_ne, rC, rgC, cfC, memC, hone, a170, hh, a171, ht, a172, hrw, e1, a175, hpk, hgw, a66, F06.c_ref06_CAS]
    rw [if_neg (by decide), if_neg (by decide), if_pos trivial] at he
    refine OKT_fn (rcas_run (hs.keep (Keep.app m _)) (by omega) o hthr w (gainW w)) ?_
    rintro _ m1 ⟨k1, v', rfl, s1⟩
    have km : Keep m m1 := (Keep.app m _).trans k1
    have g0 := k1.get (i := m.length) (by rw [get_mid0]; rfl)
    have g1 := k1.get (i := m.length + 1) (by rw [get_mid]; rfl)
    have g2 := k1.get (i := m.length + 2) (by rw [get_mid]; rfl)
    have g3 := k1.get (i := m.length + 3) (by rw [get_mid]; rfl)
    have g4 := k1.get (i := m.length + 4) (by rw [get_mid]; rfl)
    have hl1 : m.length + 4 < m1.length := (List.getElem?_eq_some_iff.1 g4).1
    have hone' := slOne s1
    simp only [AV.one] at hone'
    rw [hwt] at s1
    have hno : ∀ b, m.length ≤ b → b < m.length + 5 → ∀ ro L, m1[b]? ≠ some (.cells 1 ro L) := by
      intro b b1 b2 ro L hb
      rcases (show b = m.length ∨ b = m.length + 1 ∨ b = m.length + 2 ∨ b = m.length + 3 ∨ b = m.length + 4 by omega) with rfl | rfl | rfl | rfl | rfl
      · rw [g0] at hb; cases hb
      · rw [g1] at hb; cases hb
      · rw [g2] at hb; cases hb
      · rw [g3] at hb; cases hb
      · rw [g4] at hb; cases hb
    by_cases heq : xs.getD (wrdN c p) 0 = w
    · have hd : decide (xs.getD (addrA c p 0).toNat 0 = w) = true := by rw [hwt]; exact decide_eq_true heq
      rw [if_pos heq] at s1 he
      subst he
      simp (disch := first | assumption | omega | (simp only [List.length_cons, List.length_nil, List.length_set, List.length_append] <;> omega) | (simp only [get_mid, get_mid0, List.cons_append, List.append_assoc, List.getElem?_cons_zero, List.getElem?_cons_succ])) only [ek, ↓evW, ↓evQ, evB, evS, evL, List.map, AV.cells, List.all, AV.one, Bool.and_true, Bool.true_and, if_true, ↓thenQ_normal, ↓thenQ_exit, ↓thenQ_ret, ↓blockQ_normal, ↓blockQ_ret, ↓blockQ_exit, ↓CW_true, ↓CW_false, CW_true, CW_false, condT, condF, RQ_some, tupA_one, tupA_two, tupA_nil, Nat.reduceSub, Nat.reduceAdd, Nat.reduceMul, Nat.zero_add, Nat.add_zero, Nat.reduceLeDiff, Nat.reduceEqDiff, eqV, eqAll, fillA, and_self, and_true, true_and, Nat.le_refl, Bool.not_true, Bool.not_false, Bool.false_xor, Bool.true_xor, cond_true, cond_false, List.replicate, if_false, reduceIte, resAll, resA, ne_eq, decide_not, decide_true, decide_false, Int.reduceEq, Bool.not_true, Bool.not_false, not_true_eq_false, not_false_eq_true, cond_bool, cond_int, beq_self_eq_true, Int.reduceBEq, Bool.and_self, Bool.and_false, Bool.false_and, Bool.xor_false, Bool.xor_true, loadN_ldC, ldC_none, ldC_somes, stC_aggs, splice, storeN_stC, stC_int, stC_bool, stC_ptr, stC_nilp, stC_sl, stC_nils, getC_gcO, gcO_cells, W_draw_eq, ↓W_scope, ev_clear, evT, evF, evX, evM, ↓exitQ_normal, ↓exitQ_ret, ↓exitQ_exit, saA_self, saO_self, if_pos, if_neg, wrapI, get_concat, set_concat, Int.toNat_natCast, Int.toNat_zero, List.nil_append, Nat.mul_one, decide_eq_true, decide_eq_false, Int.reduceLE, Int.reduceLT, Int.reduceNeg, Bool.false_or, Bool.true_or, Bool.or_false, Bool.or_true, wrapU, Int.reduceAdd, Int.reduceSub, Int.reduceMul, List.append_assoc, List.length_append, get_mid, get_mid0, set_mid, set_mid0, List.length_set, List.length_cons, List.length_nil, List.cons_append, List.getElem?_append_left, List.set_append_left, get_at, get_at0, set_at, set_at0, List.getElem?_set_self, List.getElem?_set_ne, memC, hd, g0, g1, g2, g3, g4, hone']
      refine ⟨?_, v', by rw [← ho]; rfl, ?_⟩
      · repeat' first | exact km | refine Keep.set ?_ (by omega) _
      · refine SUN.su (lo := m.length) (hi := m.length + 5) ?_
        repeat' first | exact ⟨s1, hno⟩ | refine SUN.set ?_ (by omega) (by omega) (by intro _ _ h; cases h)
    · have hd : decide (xs.getD (addrA c p 0).toNat 0 = w) = false := by rw [hwt]; exact decide_eq_false heq
      rw [if_neg heq] at s1 he
      subst he
      simp (disch := first | assumption | omega | (simp only [List.length_cons, List.length_nil, List.length_set, List.length_append] <;> omega) | (simp only [get_mid, get_mid0, List.cons_append, List.append_assoc, List.getElem?_cons_zero, List.getElem?_cons_succ])) only [ek, ↓evW, ↓evQ, evB, evS, evL, List.map, AV.cells, List.all, AV.one, Bool.and_true, Bool.true_and, if_true, ↓thenQ_normal, ↓thenQ_exit, ↓thenQ_ret, ↓blockQ_normal, ↓blockQ_ret, ↓blockQ_exit, ↓CW_true, ↓CW_false, CW_true, CW_false, condT, condF, RQ_some, tupA_one, tupA_two, tupA_nil, Nat.reduceSub, Nat.reduceAdd, Nat.reduceMul, Nat.zero_add, Nat.add_zero, Nat.reduceLeDiff, Nat.reduceEqDiff, eqV, eqAll, fillA, and_self, and_true, true_and, Nat.le_refl, Bool.not_true, Bool.not_false, Bool.false_xor, Bool.true_xor, cond_true, cond_false, List.replicate, if_false, reduceIte, resAll, resA, ne_eq, decide_not, decide_true, decide_false, Int.reduceEq, Bool.not_true, Bool.not_false, not_true_eq_false, not_false_eq_true, cond_bool, cond_int, beq_self_eq_true, Int.reduceBEq, Bool.and_self, Bool.and_false, Bool.false_and, Bool.xor_false, Bool.xor_true, loadN_ldC, ldC_none, ldC_somes, stC_aggs, splice, storeN_stC, stC_int, stC_bool, stC_ptr, stC_nilp, stC_sl, stC_nils, getC_gcO, gcO_cells, W_draw_eq, ↓W_scope, ev_clear, evT, evF, evX, evM, ↓exitQ_normal, ↓exitQ_ret, ↓exitQ_exit, saA_self, saO_self, if_pos, if_neg, wrapI, get_concat, set_concat, Int.toNat_natCast, Int.toNat_zero, List.nil_append, Nat.mul_one, decide_eq_true, decide_eq_false, Int.reduceLE, Int.reduceLT, Int.reduceNeg, Bool.false_or, Bool.true_or, Bool.or_false, Bool.or_true, wrapU, Int.reduceAdd, Int.reduceSub, Int.reduceMul, List.append_assoc, List.length_append, get_mid, get_mid0, set_mid, set_mid0, List.length_set, List.length_cons, List.length_nil, List.cons_append, List.getElem?_append_left, List.set_append_left, get_at, get_at0, set_at, set_at0, List.getElem?_set_self, List.getElem?_set_ne, memC, hd, g0, g1, g2, g3, g4, hone']
      refine ⟨?_, v', by rw [← ho]; rfl, ?_⟩
      · repeat' first | exact km | refine Keep.set ?_ (by omega) _
      · refine SUN.su (lo := m.length) (hi := m.length + 5) ?_
        repeat' first | exact ⟨s1, hno⟩ | refine SUN.set ?_ (by omega) (by omega) (by intro _ _ h; cases h)
end Go.Am.F10
end
