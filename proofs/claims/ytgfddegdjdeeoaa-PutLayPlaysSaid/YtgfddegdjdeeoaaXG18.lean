import Derived.Test.YtgfddegdjdeeoaaXG17
set_option linter.unusedSimpArgs false
set_option linter.unusedVariables false
section
namespace Go.Am.F10
open Go.Am.F06 (memC slOne)
variable {X : Type}
theorem rright_eq (m : Mem X) (c : Cf) : c_ref05_Right [.agg (cfC c)] m = some (.bool (decide (rightP c)), m ++ [.cells 6 false (cfC c)]) := Fn_eq (rright_run (G := []) c)
theorem rthere_eq (m : Mem X) (c : Cf) (p : Int) : c_ref09_There [.agg (cfC c), .int .i64 p] m = some (.bool (decide (thereP c p)), m ++ [.cells 6 false (cfC c), .cells 6 false (cfC c)]) := by
  have a181 : assoc [(181, c_ref05_Right (X := X))] 181 = some c_ref05_Right := rfl
  have he : c_ref09_There (X := X) = amFunc [(181, c_ref05_Right)] ref09_There := rfl
  rw [he]
  generalize [(181, c_ref05_Right (X := X))] = G at a181 ⊢
  have hr := rright_eq (m ++ [.cells 6 false (cfC c)]) c
  simp only [cfC, List.append_assoc, List.cons_append, List.nil_append] at hr
  refine Fn_eq (Fn_of rfl ?_)
  by_cases h : rightP c
  · simp only [decide_eq_true h] at hr
    simp (disch := first | assumption | omega | (simp only [List.length_cons, List.length_nil, List.length_set, List.length_append] <;> omega) | (simp only [get_mid, get_mid0, List.cons_append, List.append_assoc, List.getElem?_cons_zero, List.getElem?_cons_succ])) only [ref09_There, ek, ↓evW, ↓evQ, evB, evS, evL, List.map, AV.cells, List.all, AV.one, Bool.and_true, Bool.true_and, if_true, ↓thenQ_normal, ↓thenQ_exit, ↓thenQ_ret, ↓blockQ_normal, ↓blockQ_ret, ↓blockQ_exit, ↓CW_true, ↓CW_false, CW_true, CW_false, condT, condF, RQ_some, tupA_one, tupA_two, tupA_nil, Nat.reduceSub, Nat.reduceAdd, Nat.reduceMul, Nat.zero_add, Nat.add_zero, Nat.reduceLeDiff, Nat.reduceEqDiff, eqV, eqAll, fillA, and_self, and_true, true_and, Nat.le_refl, Bool.not_true, Bool.not_false, Bool.false_xor, Bool.true_xor, cond_true, cond_false, List.replicate, if_false, reduceIte, resAll, resA, ne_eq, decide_not, decide_true, decide_false, Int.reduceEq, Bool.not_true, Bool.not_false, not_true_eq_false, not_false_eq_true, cond_bool, cond_int, beq_self_eq_true, Int.reduceBEq, Bool.and_self, Bool.and_false, Bool.false_and, Bool.xor_false, Bool.xor_true, loadN_ldC, ldC_none, ldC_somes, stC_aggs, splice, storeN_stC, stC_int, stC_bool, stC_ptr, stC_nilp, stC_sl, stC_nils, getC_gcO, gcO_cells, W_draw_eq, ↓W_scope, ev_clear, evT, evF, evX, evM, ↓exitQ_normal, ↓exitQ_ret, ↓exitQ_exit, saA_self, saO_self, if_pos, if_neg, wrapI, get_concat, set_concat, Int.toNat_natCast, Int.toNat_zero, List.nil_append, Nat.mul_one, decide_eq_true, decide_eq_false, Int.reduceLE, Int.reduceLT, Int.reduceNeg, Bool.false_or, Bool.true_or, Bool.or_false, Bool.or_true, wrapU, Int.reduceAdd, Int.reduceSub, Int.reduceMul, List.append_assoc, List.length_append, get_mid, get_mid0, set_mid, set_mid0, List.length_set, List.length_cons, List.length_nil, List.cons_append, List.getElem?_append_left, List.set_append_left, get_at, get_at0, set_at, set_at0, List.getElem?_set_self, List.getElem?_set_ne, cfC, a181, hr]
    repeat' ((first | refine GK_of (fun h => ?_) (fun h => ?_) | refine CW_of (fun h => ?_) (fun h => ?_) | refine GKT_of (fun h => ?_) (fun h => ?_)) <;> (try simp only [Bool.not_eq_true', Bool.not_eq_false', decide_eq_true_eq, decide_eq_false_iff_not, Bool.and_eq_true, Bool.or_eq_true, Bool.and_eq_false_iff, Bool.or_eq_false_iff, Decidable.not_not] at h) <;> (try simp (disch := first | assumption | omega | (simp only [List.length_cons, List.length_nil, List.length_set, List.length_append] <;> omega) | (simp only [get_mid, get_mid0, List.cons_append, List.append_assoc, List.getElem?_cons_zero, List.getElem?_cons_succ])) only [ek, ↓evW, ↓evQ, evB, evS, evL, List.map, AV.cells, List.all, AV.one, Bool.and_true, Bool.true_and, if_true, ↓thenQ_normal, ↓thenQ_exit, ↓thenQ_ret, ↓blockQ_normal, ↓blockQ_ret, ↓blockQ_exit, ↓CW_true, ↓CW_false, CW_true, CW_false, condT, condF, RQ_some, tupA_one, tupA_two, tupA_nil, Nat.reduceSub, Nat.reduceAdd, Nat.reduceMul, Nat.zero_add, Nat.add_zero, Nat.reduceLeDiff, Nat.reduceEqDiff, eqV, eqAll, fillA, and_self, and_true, true_and, Nat.le_refl, Bool.not_true, Bool.not_false, Bool.false_xor, Bool.true_xor, cond_true, cond_false, List.replicate, if_false, reduceIte, resAll, resA, ne_eq, decide_not, decide_true, decide_false, Int.reduceEq, Bool.not_true, Bool.not_false, not_true_eq_false, not_false_eq_true, cond_bool, cond_int, beq_self_eq_true, Int.reduceBEq, Bool.and_self, Bool.and_false, Bool.false_and, Bool.xor_false, Bool.xor_true, loadN_ldC, ldC_none, ldC_somes, stC_aggs, splice, storeN_stC, stC_int, stC_bool, stC_ptr, stC_nilp, stC_sl, stC_nils, getC_gcO, gcO_cells, W_draw_eq, ↓W_scope, ev_clear, evT, evF, evX, evM, ↓exitQ_normal, ↓exitQ_ret, ↓exitQ_exit, saA_self, saO_self, if_pos, if_neg, wrapI, get_concat, set_concat, Int.toNat_natCast, Int.toNat_zero, List.nil_append, Nat.mul_one, decide_eq_true, decide_eq_false, Int.reduceLE, Int.reduceLT, Int.reduceNeg, Bool.false_or, Bool.true_or, Bool.or_false, Bool.or_true, wrapU, Int.reduceAdd, Int.reduceSub, Int.reduceMul, List.append_assoc, List.length_append, get_mid, get_mid0, set_mid, set_mid0, List.length_set, List.length_cons, List.length_nil, List.cons_append, List.getElem?_append_left, List.set_append_left, get_at, get_at0, set_at, set_at0, List.getElem?_set_self, List.getElem?_set_ne, cfC, h]))
    all_goals refine congrArg _ ?_
    all_goals rw [← Bool.eq_iff_iff.2 (show decide (0 ≤ p ∧ p < c.n) = true ↔ decide (thereP c p) = true by simp only [decide_eq_true_eq]; exact ⟨fun hh => ⟨‹rightP c›, hh⟩, fun hh => hh.2⟩)]
    all_goals first | (rw [decide_eq_true (by omega)]; done) | (rw [decide_eq_false (by omega)]; done) | (rw [decide_eq_decide]; omega)
  · simp only [decide_eq_false h] at hr
    simp (disch := first | assumption | omega | (simp only [List.length_cons, List.length_nil, List.length_set, List.length_append] <;> omega) | (simp only [get_mid, get_mid0, List.cons_append, List.append_assoc, List.getElem?_cons_zero, List.getElem?_cons_succ])) only [ref09_There, ek, ↓evW, ↓evQ, evB, evS, evL, List.map, AV.cells, List.all, AV.one, Bool.and_true, Bool.true_and, if_true, ↓thenQ_normal, ↓thenQ_exit, ↓thenQ_ret, ↓blockQ_normal, ↓blockQ_ret, ↓blockQ_exit, ↓CW_true, ↓CW_false, CW_true, CW_false, condT, condF, RQ_some, tupA_one, tupA_two, tupA_nil, Nat.reduceSub, Nat.reduceAdd, Nat.reduceMul, Nat.zero_add, Nat.add_zero, Nat.reduceLeDiff, Nat.reduceEqDiff, eqV, eqAll, fillA, and_self, and_true, true_and, Nat.le_refl, Bool.not_true, Bool.not_false, Bool.false_xor, Bool.true_xor, cond_true, cond_false, List.replicate, if_false, reduceIte, resAll, resA, ne_eq, decide_not, decide_true, decide_false, Int.reduceEq, Bool.not_true, Bool.not_false, not_true_eq_false, not_false_eq_true, cond_bool, cond_int, beq_self_eq_true, Int.reduceBEq, Bool.and_self, Bool.and_false, Bool.false_and, Bool.xor_false, Bool.xor_true, loadN_ldC, ldC_none, ldC_somes, stC_aggs, splice, storeN_stC, stC_int, stC_bool, stC_ptr, stC_nilp, stC_sl, stC_nils, getC_gcO, gcO_cells, W_draw_eq, ↓W_scope, ev_clear, evT, evF, evX, evM, ↓exitQ_normal, ↓exitQ_ret, ↓exitQ_exit, saA_self, saO_self, if_pos, if_neg, wrapI, get_concat, set_concat, Int.toNat_natCast, Int.toNat_zero, List.nil_append, Nat.mul_one, decide_eq_true, decide_eq_false, Int.reduceLE, Int.reduceLT, Int.reduceNeg, Bool.false_or, Bool.true_or, Bool.or_false, Bool.or_true, wrapU, Int.reduceAdd, Int.reduceSub, Int.reduceMul, List.append_assoc, List.length_append, get_mid, get_mid0, set_mid, set_mid0, List.length_set, List.length_cons, List.length_nil, List.cons_append, List.getElem?_append_left, List.set_append_left, get_at, get_at0, set_at, set_at0, List.getElem?_set_self, List.getElem?_set_ne, cfC, a181, hr]
    rw [decide_eq_false (fun hc => h hc.1)]
theorem config_eq (m : Mem X) (c : Cf) : c_docs_Config [.agg (cfC c)] m = some (.agg (cfC c), m ++ [.cells 6 false (cfC c), .cells 6 false (cfC c)]) := by
  have he : c_docs_Config (X := X) = amFunc [] docs_Config := rfl
  rw [he]
  refine Fn_eq (Fn_of rfl ?_)
  simp (disch := first | assumption | omega | (simp only [List.length_cons, List.length_nil, List.length_set, List.length_append] <;> omega) | (simp only [get_mid, get_mid0, List.cons_append, List.append_assoc, List.getElem?_cons_zero, List.getElem?_cons_succ])) only [docs_Config, ek, ↓evW, ↓evQ, evB, evS, evL, List.map, AV.cells, List.all, AV.one, Bool.and_true, Bool.true_and, if_true, ↓thenQ_normal, ↓thenQ_exit, ↓thenQ_ret, ↓blockQ_normal, ↓blockQ_ret, ↓blockQ_exit, ↓CW_true, ↓CW_false, CW_true, CW_false, condT, condF, RQ_some, tupA_one, tupA_two, tupA_nil, Nat.reduceSub, Nat.reduceAdd, Nat.reduceMul, Nat.zero_add, Nat.add_zero, Nat.reduceLeDiff, Nat.reduceEqDiff, eqV, eqAll, fillA, and_self, and_true, true_and, Nat.le_refl, Bool.not_true, Bool.not_false, Bool.false_xor, Bool.true_xor, cond_true, cond_false, List.replicate, if_false, reduceIte, resAll, resA, ne_eq, decide_not, decide_true, decide_false, Int.reduceEq, Bool.not_true, Bool.not_false, not_true_eq_false, not_false_eq_true, cond_bool, cond_int, beq_self_eq_true, Int.reduceBEq, Bool.and_self, Bool.and_false, Bool.false_and, Bool.xor_false, Bool.xor_true, loadN_ldC, ldC_none, ldC_somes, stC_aggs, splice, storeN_stC, stC_int, stC_bool, stC_ptr, stC_nilp, stC_sl, stC_nils, getC_gcO, gcO_cells, W_draw_eq, ↓W_scope, ev_clear, evT, evF, evX, evM, ↓exitQ_normal, ↓exitQ_ret, ↓exitQ_exit, saA_self, saO_self, if_pos, if_neg, wrapI, get_concat, set_concat, Int.toNat_natCast, Int.toNat_zero, List.nil_append, Nat.mul_one, decide_eq_true, decide_eq_false, Int.reduceLE, Int.reduceLT, Int.reduceNeg, Bool.false_or, Bool.true_or, Bool.or_false, Bool.or_true, wrapU, Int.reduceAdd, Int.reduceSub, Int.reduceMul, List.append_assoc, List.length_append, get_mid, get_mid0, set_mid, set_mid0, List.length_set, List.length_cons, List.length_nil, List.cons_append, List.getElem?_append_left, List.set_append_left, get_at, get_at0, set_at, set_at0, List.getElem?_set_self, List.getElem?_set_ne, cfC]
def rgC (c : Cf) (p a w seen got : Int) (has : Bool) (tries : Int) : List AV := cfC c ++ [.int .i64 p, .int .i64 a, .int .u64 w, .int .i64 seen, .int .i64 got, .bool has, .int .i64 tries]
end Go.Am.F10
end
section
namespace Go.Am.F06
set_option maxHeartbeats 4000000 in
theorem rload_eq {m : MM} {wr : Bool} {xs : List Int} {v : AV} (hs : SU m wr xs v) (o : Int) {a : Nat} (ha : a < xs.length) : c_ref06_Load [.agg (memC v o), .int .i64 a] m = some (.tup [.agg (memC v (IntKind.u64.wrap (o + 1))), .int .u64 (xs.getD a 0)], m ++ [.cells 2 false (memC v o), .cells 2 false (memC v (IntKind.u64.wrap (o + 1))), .cells 2 false (memC v o)]) := by
  have he : c_ref06_Load (X := Ob) = amFunc [(72, c_ref06_there)] ref06_Load := rfl
  rw [he]
  have a72 : assoc [(72, c_ref06_there (X := Ob))] 72 = some c_ref06_there := rfl
  generalize [(72, c_ref06_there (X := Ob))] = G at a72
  have hone := slOne hs
  simp only [AV.one] at hone
  have ht := Fn_eq (refthere_run (G := []) (hs.keep (Keep.app m [Chunk.cells 2 false [v, .int .u64 o], .cells 2 false [.nils, .int .u64 0]])) o a)
  rw [thr_b] at ht
  simp only [memC, List.append_assoc, List.cons_append, List.nil_append] at ht
  have h : thr xs a := ⟨by omega, by omega⟩
  obtain ⟨x, hx⟩ : ∃ x, xs[a]? = some x := ⟨_, List.getElem?_eq_getElem (by omega)⟩
  have hd : xs.getD a 0 = x := by rw [List.getD_eq_getElem?_getD, hx]; rfl
  obtain ⟨q, oo, cap, ro, L, rfl, b2, b3, b4, b5, b6⟩ := SU.get hs hx
  have hqm : q < m.length := (List.getElem?_eq_some_iff.1 b2).1
  simp only [h, decide_true] at ht
  rw [hd]
  refine Fn_eq (Fn_of rfl ?_)
  simp (disch := first | assumption | omega | (simp only [List.length_cons, List.length_nil, List.length_set, List.length_append] <;> omega) | (simp only [get_mid, get_mid0, List.cons_append, List.append_assoc, List.getElem?_cons_zero, List.getElem?_cons_succ])) only [ref06_Load, ek, ↓evW, ↓evQ, evB, evS, evL, List.map, AV.cells, List.all, AV.one, Bool.and_true, Bool.true_and, if_true, ↓thenQ_normal, ↓thenQ_exit, ↓thenQ_ret, ↓blockQ_normal, ↓blockQ_ret, ↓blockQ_exit, ↓CW_true, ↓CW_false, CW_true, CW_false, condT, condF, RQ_some, tupA_one, tupA_two, tupA_nil, Nat.reduceSub, Nat.reduceAdd, Nat.reduceMul, Nat.zero_add, Nat.add_zero, Nat.reduceLeDiff, Nat.reduceEqDiff, eqV, eqAll, fillA, and_self, and_true, true_and, Nat.le_refl, Bool.not_true, Bool.not_false, Bool.false_xor, Bool.true_xor, cond_true, cond_false, List.replicate, if_false, reduceIte, resAll, resA, ne_eq, decide_not, decide_true, decide_false, Int.reduceEq, Bool.not_true, Bool.not_false, not_true_eq_false, not_false_eq_true, cond_bool, cond_int, beq_self_eq_true, Int.reduceBEq, Bool.and_self, Bool.and_false, Bool.false_and, Bool.xor_false, Bool.xor_true, loadN_ldC, ldC_none, ldC_somes, stC_aggs, splice, storeN_stC, stC_int, stC_bool, stC_ptr, stC_nilp, stC_sl, stC_nils, getC_gcO, gcO_cells, W_draw_eq, ↓W_scope, ev_clear, evT, evF, evX, evM, ↓exitQ_normal, ↓exitQ_ret, ↓exitQ_exit, saA_self, saO_self, if_pos, if_neg, wrapI, get_concat, set_concat, Int.toNat_natCast, Int.toNat_zero, List.nil_append, Nat.mul_one, decide_eq_true, decide_eq_false, Int.reduceLE, Int.reduceLT, Int.reduceNeg, Bool.false_or, Bool.true_or, Bool.or_false, Bool.or_true, wrapU, Int.reduceAdd, Int.reduceSub, Int.reduceMul, List.append_assoc, List.length_append, get_mid, get_mid0, set_mid, set_mid0, List.length_set, List.length_cons, List.length_nil, List.cons_append, List.getElem?_append_left, List.set_append_left, get_at, get_at0, set_at, set_at0, List.getElem?_set_self, List.getElem?_set_ne, memC, hone, a72, c_ref06_there, ht, b2, b6]
def RcP (m : MM) (xs : List Int) (o a old x : Int) (r : AV) (m' : MM) : Prop := Keep m m' ∧ ∃ v', r = .tup [.agg (memC v' o), .bool (decide (xs.getD a.toNat 0 = old))] ∧ SU m' false (if xs.getD a.toNat 0 = old then xs.set a.toNat x else xs) v'
set_option maxHeartbeats 4000000 in
theorem rcas_run {m : MM} {wr : Bool} {xs : List Int} {v : AV} (hs : SU m wr xs v) (hn : xs.length ≤ 65536) (o : Int) {a : Int} (ha : thr xs a) (old x : Int) : Fn [(72, c_ref06_there), (73, c_ref06_with)] ref06_CAS [.agg (memC v o), .int .i64 a, .int .u64 old, .int .u64 x] m (RcP m xs (IntKind.u64.wrap (o + 1)) a old x) := by
  have a72 : assoc [(72, c_ref06_there (X := Ob)), (73, c_ref06_with)] 72 = some c_ref06_there := rfl
  have a73 : assoc [(72, c_ref06_there (X := Ob)), (73, c_ref06_with)] 73 = some c_ref06_with := rfl
  generalize [(72, c_ref06_there (X := Ob)), (73, c_ref06_with)] = G at a72 a73
  have hone := slOne hs
  simp only [AV.one] at hone
  have ht := Fn_eq (refthere_run (G := []) (hs.keep (Keep.app m [Chunk.cells 2 false [v, .int .u64 o], .cells 2 false [.nils, .int .u64 0]])) o a)
  rw [thr_b] at ht
  simp only [memC, List.append_assoc, List.cons_append, List.nil_append] at ht
  refine Fn_of rfl ?_
  obtain ⟨h0, h1⟩ := id ha
  obtain ⟨k, rfl⟩ : ∃ k : Nat, a = k := ⟨a.toNat, by omega⟩
  obtain ⟨w, hw⟩ : ∃ w, xs[k]? = some w := ⟨_, List.getElem?_eq_getElem (by omega)⟩
  obtain ⟨q, oo, cap, ro, L, rfl, b2, b3, b4, b5, b6⟩ := SU.get hs hw
  have hqm : q < m.length := (List.getElem?_eq_some_iff.1 b2).1
  have hgd : xs.getD k 0 = w := by rw [List.getD_eq_getElem?_getD, hw]; rfl
  simp only [ha, decide_true] at ht
  have hw := refwith_run (G := []) (hs.keep (Keep.app m [Chunk.cells 2 false [.sl q oo xs.length cap, .int .u64 o], .cells 2 false [.nils, .int .u64 0], .cells 2 false [.sl q oo xs.length cap, .int .u64 o]])) hn (a := k) (by omega) o x
  by_cases hwo : w = old
  · subst hwo
    simp (disch := first | assumption | omega | (simp only [List.length_cons, List.length_nil, List.length_set, List.length_append] <;> omega) | (simp only [get_mid, get_mid0, List.cons_append, List.append_assoc, List.getElem?_cons_zero, List.getElem?_cons_succ])) only [ref06_CAS, ek, ↓evW, ↓evQ, evB, evS, evL, List.map, AV.cells, List.all, AV.one, Bool.and_true, Bool.true_and, if_true, ↓thenQ_normal, ↓thenQ_exit, ↓thenQ_ret, ↓blockQ_normal, ↓blockQ_ret, ↓blockQ_exit, ↓CW_true, ↓CW_false, CW_true, CW_false, condT, condF, RQ_some, tupA_one, tupA_two, tupA_nil, Nat.reduceSub, Nat.reduceAdd, Nat.reduceMul, Nat.zero_add, Nat.add_zero, Nat.reduceLeDiff, Nat.reduceEqDiff, eqV, eqAll, fillA, and_self, and_true, true_and, Nat.le_refl, Bool.not_true, Bool.not_false, Bool.false_xor, Bool.true_xor, cond_true, cond_false, List.replicate, if_false, reduceIte, resAll, resA, ne_eq, decide_not, decide_true, decide_false, Int.reduceEq, Bool.not_true, Bool.not_false, not_true_eq_false, not_false_eq_true, cond_bool, cond_int, beq_self_eq_true, Int.reduceBEq, Bool.and_self, Bool.and_false, Bool.false_and, Bool.xor_false, Bool.xor_true, loadN_ldC, ldC_none, ldC_somes, stC_aggs, splice, storeN_stC, stC_int, stC_bool, stC_ptr, stC_nilp, stC_sl, stC_nils, getC_gcO, gcO_cells, W_draw_eq, ↓W_scope, ev_clear, evT, evF, evX, evM, ↓exitQ_normal, ↓exitQ_ret, ↓exitQ_exit, saA_self, saO_self, if_pos, if_neg, wrapI, get_concat, set_concat, Int.toNat_natCast, Int.toNat_zero, List.nil_append, Nat.mul_one, decide_eq_true, decide_eq_false, Int.reduceLE, Int.reduceLT, Int.reduceNeg, Bool.false_or, Bool.true_or, Bool.or_false, Bool.or_true, wrapU, Int.reduceAdd, Int.reduceSub, Int.reduceMul, List.append_assoc, List.length_append, get_mid, get_mid0, set_mid, set_mid0, List.length_set, List.length_cons, List.length_nil, List.cons_append, List.getElem?_append_left, List.set_append_left, get_at, get_at0, set_at, set_at0, List.getElem?_set_self, List.getElem?_set_ne, memC, hone, a72, c_ref06_there, ht, a73, c_ref06_with, b2, b6]
    refine OK_fn hw ?_
    rintro _ m1 ⟨k1, v', rfl, s1⟩
    have g1 : m1[m.length + 1]? = some (.cells 2 false [.nils, .int .u64 0]) := k1.get (by rw [get_mid]; rfl)
    have hl1 : m.length + 1 < m1.length := (List.getElem?_eq_some_iff.1 g1).1
    have hone' := slOne s1
    simp only [AV.one] at hone'
    simp (disch := first | assumption | omega | (simp only [List.length_cons, List.length_nil, List.length_set, List.length_append] <;> omega) | (simp only [get_mid, get_mid0, List.cons_append, List.append_assoc, List.getElem?_cons_zero, List.getElem?_cons_succ])) only [ek, ↓evW, ↓evQ, evB, evS, evL, List.map, AV.cells, List.all, AV.one, Bool.and_true, Bool.true_and, if_true, ↓thenQ_normal, ↓thenQ_exit, ↓thenQ_ret, ↓blockQ_normal, ↓blockQ_ret, ↓blockQ_exit, ↓CW_true, ↓CW_false, CW_true, CW_false, condT, condF, RQ_some, tupA_one, tupA_two, tupA_nil, Nat.reduceSub, Nat.reduceAdd, Nat.reduceMul, Nat.zero_add, Nat.add_zero, Nat.reduceLeDiff, Nat.reduceEqDiff, eqV, eqAll, fillA, and_self, and_true, true_and, Nat.le_refl, Bool.not_true, Bool.not_false, Bool.false_xor, Bool.true_xor, cond_true, cond_false, List.replicate, if_false, reduceIte, resAll, resA, ne_eq, decide_not, decide_true, decide_false, Int.reduceEq, Bool.not_true, Bool.not_false, not_true_eq_false, not_false_eq_true, cond_bool, cond_int, beq_self_eq_true, Int.reduceBEq, Bool.and_self, Bool.and_false, Bool.false_and, Bool.xor_false, Bool.xor_true, loadN_ldC, ldC_none, ldC_somes, stC_aggs, splice, storeN_stC, stC_int, stC_bool, stC_ptr, stC_nilp, stC_sl, stC_nils, getC_gcO, gcO_cells, W_draw_eq, ↓W_scope, ev_clear, evT, evF, evX, evM, ↓exitQ_normal, ↓exitQ_ret, ↓exitQ_exit, saA_self, saO_self, if_pos, if_neg, wrapI, get_concat, set_concat, Int.toNat_natCast, Int.toNat_zero, List.nil_append, Nat.mul_one, decide_eq_true, decide_eq_false, Int.reduceLE, Int.reduceLT, Int.reduceNeg, Bool.false_or, Bool.true_or, Bool.or_false, Bool.or_true, wrapU, Int.reduceAdd, Int.reduceSub, Int.reduceMul, List.append_assoc, List.length_append, get_mid, get_mid0, set_mid, set_mid0, List.length_set, List.length_cons, List.length_nil, List.cons_append, List.getElem?_append_left, List.set_append_left, get_at, get_at0, set_at, set_at0, List.getElem?_set_self, List.getElem?_set_ne, memC, g1, hone']
    refine ⟨((Keep.app m _).trans k1).set (by omega) _, v', ?_, ?_⟩
    · rw [Int.toNat_natCast, hgd, decide_eq_true rfl]; rfl
    · rw [Int.toNat_natCast, hgd, if_pos rfl]; exact (KeepB.at _ _).off (su_box s1 g1) s1
  · simp (disch := first | assumption | omega | (simp only [List.length_cons, List.length_nil, List.length_set, List.length_append] <;> omega) | (simp only [get_mid, get_mid0, List.cons_append, List.append_assoc, List.getElem?_cons_zero, List.getElem?_cons_succ])) only [ref06_CAS, ek, ↓evW, ↓evQ, evB, evS, evL, List.map, AV.cells, List.all, AV.one, Bool.and_true, Bool.true_and, if_true, ↓thenQ_normal, ↓thenQ_exit, ↓thenQ_ret, ↓blockQ_normal, ↓blockQ_ret, ↓blockQ_exit, ↓CW_true, ↓CW_false, CW_true, CW_false, condT, condF, RQ_some, tupA_one, tupA_two, tupA_nil, Nat.reduceSub, Nat.reduceAdd, Nat.reduceMul, Nat.zero_add, Nat.add_zero, Nat.reduceLeDiff, Nat.reduceEqDiff, eqV, eqAll, fillA, and_self, and_true, true_and, Nat.le_refl, Bool.not_true, Bool.not_false, Bool.false_xor, Bool.true_xor, cond_true, cond_false, List.replicate, if_false, reduceIte, resAll, resA, ne_eq, decide_not, decide_true, decide_false, Int.reduceEq, Bool.not_true, Bool.not_false, not_true_eq_false, not_false_eq_true, cond_bool, cond_int, beq_self_eq_true, Int.reduceBEq, Bool.and_self, Bool.and_false, Bool.false_and, Bool.xor_false, Bool.xor_true, loadN_ldC, ldC_none, ldC_somes, stC_aggs, splice, storeN_stC, stC_int, stC_bool, stC_ptr, stC_nilp, stC_sl, stC_nils, getC_gcO, gcO_cells, W_draw_eq, ↓W_scope, ev_clear, evT, evF, evX, evM, ↓exitQ_normal, ↓exitQ_ret, ↓exitQ_exit, saA_self, saO_self, if_pos, if_neg, wrapI, get_concat, set_concat, Int.toNat_natCast, Int.toNat_zero, List.nil_append, Nat.mul_one, decide_eq_true, decide_eq_false, Int.reduceLE, Int.reduceLT, Int.reduceNeg, Bool.false_or, Bool.true_or, Bool.or_false, Bool.or_true, wrapU, Int.reduceAdd, Int.reduceSub, Int.reduceMul, List.append_assoc, List.length_append, get_mid, get_mid0, set_mid, set_mid0, List.length_set, List.length_cons, List.length_nil, List.cons_append, List.getElem?_append_left, List.set_append_left, get_at, get_at0, set_at, set_at0, List.getElem?_set_self, List.getElem?_set_ne, memC, hone, a72, c_ref06_there, ht, b2, b6]
    refine ⟨Keep.app _ _, .sl q oo xs.length cap, ?_, ?_⟩
    · rw [Int.toNat_natCast, hgd, decide_eq_false hwo]; rfl
    · rw [Int.toNat_natCast, hgd, if_neg hwo]; exact (hs.keep (Keep.app _ _)).ro
end Go.Am.F06
namespace Go.Am.F10
open Go.Am.F06
theorem word_at {c : Cf} {p : Int} (h : thereP c p) : wordA c p = addrA c p 0 := by unfold addrA wordA; rw [if_pos h, Int.add_zero]
theorem slot_at {c : Cf} {p : Int} (h : thereP c p) (i : Int) : wordA c p + 6 + i % c.q = slotA c p i := by unfold slotA; rw [if_pos h.1]; unfold addrA wordA; rw [if_pos h]; omega
theorem rslot_eq {X : Type} (m : Mem X) {c : Cf} {p : Int} (h : thereP c p) {i : Int} (hi : 0 ≤ i) (hi2 : i < 4294967296) : c_ref09_Slot [.agg (cfC c), .int .i64 p, .int .u32 i] m = some (.int .i64 (slotA c p i), m ++ [.cells 6 false (cfC c), .cells 6 false (cfC c)]) := by
  have a172 : assoc [(172, c_ref09_Word (X := X))] 172 = some c_ref09_Word := rfl
  have he : c_ref09_Slot (X := X) = amFunc [(172, c_ref09_Word)] ref09_Slot := rfl
  rw [he]
  generalize [(172, c_ref09_Word (X := X))] = G at a172 ⊢
  have hb := there_bounds h
  have hw := fun m : Mem X => rword_eq m h
  have hwa := addr_b h (i := 0) (by omega) (by omega)
  rw [← word_at h] at hwa
  have hcn := cellsN_le c
  have h0 := Int.emod_nonneg i (b := c.q) (by omega)
  have h1 := Int.emod_lt_of_pos i (b := c.q) (by omega)
  have e0 : IntKind.u32.wrap c.q = c.q := by rw [wrap32]; omega
  have e1 : i.tmod c.q = i % c.q := Int.tmod_eq_emod_of_nonneg hi
  have e2 : IntKind.i64.wrap (i % c.q) = i % c.q := wrapI (by omega) (by omega)
  have e3 : IntKind.i64.wrap (wordA c p + 6) = wordA c p + 6 := wrapI (by omega) (by omega)
  have e4 : IntKind.i64.wrap (wordA c p + 6 + i % c.q) = slotA c p i := by rw [wrapI (by omega) (by omega)]; exact slot_at h i
  have e5 : ¬ (c.q = 0) := by omega
  simp only [cfC] at hw
  refine Fn_eq (Fn_of rfl ?_)
  simp (disch := first | assumption | omega | (simp only [List.length_cons, List.length_nil, List.length_set, List.length_append] <;> omega) | (simp only [get_mid, get_mid0, List.cons_append, List.append_assoc, List.getElem?_cons_zero, List.getElem?_cons_succ])) only [ref09_Slot, ek, ↓evW, ↓evQ, evB, evS, evL, List.map, AV.cells, List.all, AV.one, Bool.and_true, Bool.true_and, if_true, ↓thenQ_normal, ↓thenQ_exit, ↓thenQ_ret, ↓blockQ_normal, ↓blockQ_ret, ↓blockQ_exit, ↓CW_true, ↓CW_false, CW_true, CW_false, condT, condF, RQ_some, tupA_one, tupA_two, tupA_nil, Nat.reduceSub, Nat.reduceAdd, Nat.reduceMul, Nat.zero_add, Nat.add_zero, Nat.reduceLeDiff, Nat.reduceEqDiff, eqV, eqAll, fillA, and_self, and_true, true_and, Nat.le_refl, Bool.not_true, Bool.not_false, Bool.false_xor, Bool.true_xor, cond_true, cond_false, List.replicate, if_false, reduceIte, resAll, resA, ne_eq, decide_not, decide_true, decide_false, Int.reduceEq, Bool.not_true, Bool.not_false, not_true_eq_false, not_false_eq_true, cond_bool, cond_int, beq_self_eq_true, Int.reduceBEq, Bool.and_self, Bool.and_false, Bool.false_and, Bool.xor_false, Bool.xor_true, loadN_ldC, ldC_none, ldC_somes, stC_aggs, splice, storeN_stC, stC_int, stC_bool, stC_ptr, stC_nilp, stC_sl, stC_nils, getC_gcO, gcO_cells, W_draw_eq, ↓W_scope, ev_clear, evT, evF, evX, evM, ↓exitQ_normal, ↓exitQ_ret, ↓exitQ_exit, saA_self, saO_self, if_pos, if_neg, wrapI, get_concat, set_concat, Int.toNat_natCast, Int.toNat_zero, List.nil_append, Nat.mul_one, decide_eq_true, decide_eq_false, Int.reduceLE, Int.reduceLT, Int.reduceNeg, Bool.false_or, Bool.true_or, Bool.or_false, Bool.or_true, wrapU, Int.reduceAdd, Int.reduceSub, Int.reduceMul, List.append_assoc, List.length_append, get_mid, get_mid0, set_mid, set_mid0, List.length_set, List.length_cons, List.length_nil, List.cons_append, List.getElem?_append_left, List.set_append_left, get_at, get_at0, set_at, set_at0, List.getElem?_set_self, List.getElem?_set_ne, cfC, a172, hw, e0, e5, e1, e2, e3, e4]
structure SUN (lo hi : Nat) (m : MM) (wr : Bool) (xs : List Int) (v : AV) : Prop where
  su : SU m wr xs v
  no : ∀ b, lo ≤ b → b < hi → ∀ ro L, m[b]? ≠ some (.cells 1 ro L)
theorem SUN.set {lo hi : Nat} {m : MM} {wr : Bool} {xs : List Int} {v : AV} (h : SUN lo hi m wr xs v) {a : Nat} (h1 : lo ≤ a) (h2 : a < hi) {C : Chunk Ob} (hC : ∀ ro L, C ≠ .cells 1 ro L) : SUN lo hi (m.set a C) wr xs v := by
  refine ⟨(KeepB.at _ _).off (fun q o n c hv h0 hq => ?_) h.su, fun b b1 b2 ro L hb => ?_⟩
  · rcases h.su.2 with ⟨h3, _⟩ | ⟨q2, o2, c2, h3, h4⟩
    · rw [h3] at hv; cases hv
    · rw [h3] at hv; injection hv with e1 e2 e3 e4; subst e1; subst e3; subst hq
      obtain ⟨ro, L, h5, _⟩ := h4 h0
      exact h.no _ h1 h2 _ _ h5
  · by_cases hab : a = b
    · subst hab
      by_cases hl : a < m.length
      · rw [List.getElem?_set_self hl] at hb; injection hb with hb; exact hC _ _ hb
      · rw [List.getElem?_eq_none (by rw [List.length_set]; omega)] at hb; cases hb
    · rw [List.getElem?_set_ne hab] at hb; exact h.no b b1 b2 _ _ hb
structure GS where
  a : Int
  w : Int
  seen : Int
  has : Bool
  tries : Int
def gC (c : Cf) (p : Int) (s : GS) : List AV := getC c p s.a s.w s.seen s.has s.tries
structure GOk (c : Cf) (p : Int) (s : GS) : Prop where
  w : W64 s.w
  a : s.a = 0 ∨ (thereP c p ∧ (s.a = 1 ∨ s.a = 2 ∨ s.a = 3))
  has : s.has = true → s.a = 0
def wrdN (c : Cf) (p : Int) : Nat := (addrA c p 0).toNat
def sltN (c : Cf) (p w : Int) : Nat := (slotA c p (hd w)).toNat
def stepG (c : Cf) (p : Int) (xs : List Int) (s : GS) : GS × List Int :=
  if s.a = 1 then ({ s with w := xs.getD (wrdN c p) 0, a := if sz (xs.getD (wrdN c p) 0) = 0 ∨ c.q < sz (xs.getD (wrdN c p) 0) then 0 else 2 }, xs)
  else if s.a = 2 then ({ s with seen := IntKind.i64.wrap (xs.getD (sltN c p s.w) 0), a := 3 }, xs)
  else if s.a = 3 then if xs.getD (wrdN c p) 0 = s.w then ({ s with has := true, a := 0 }, xs.set (wrdN c p) (gainW s.w)) else ({ s with tries := IntKind.i64.wrap (s.tries + 1), a := 1 }, xs)
  else (s, xs)
def opsG (s : GS) (o : Int) : Int := if s.a = 0 then o else IntKind.u64.wrap (o + 1)
theorem getD_64 {xs : List Int} (h : ∀ x, x ∈ xs → W64 x) (i : Nat) : W64 (xs.getD i 0) := by
  rw [List.getD_eq_getElem?_getD]
  cases hx : xs[i]? with
  | none => unfold W64; simp
  | some x => exact h x (List.mem_of_getElem? hx)
theorem stepG_zero {c : Cf} {p : Int} {s : GS} (h : s.a = 0) (xs : List Int) : stepG c p xs s = (s, xs) := by
  unfold stepG; rw [if_neg (by omega), if_neg (by omega), if_neg (by omega)]
theorem GOk.step {c : Cf} {p : Int} {s : GS} {xs : List Int} (h : GOk c p s) (hx : s.a = 0 ∨ OkL c xs) : GOk c p (stepG c p xs s).1 := by
  rcases hx with h0 | hx
  · rw [stepG_zero h0]; exact h
  obtain ⟨h1, h2, h3⟩ := h
  have hg := getD_64 hx.2 (wrdN c p)
  unfold stepG
  split
  · refine ⟨hg, ?_, fun hh => ?_⟩
    · by_cases hz : sz (xs.getD (wrdN c p) 0) = 0 ∨ c.q < sz (xs.getD (wrdN c p) 0)
      · exact .inl (if_pos hz)
      · refine .inr ⟨?_, .inr (.inl (if_neg hz))⟩
        rcases h2 with h2 | h2
        · omega
        · exact h2.1
    · have := h3 hh; omega
  · split
    · refine ⟨h1, .inr ⟨?_, .inr (.inr rfl)⟩, fun hh => ?_⟩
      · rcases h2 with h2 | h2
        · omega
        · exact h2.1
      · have := h3 hh; omega
    · split
      · split
        · exact ⟨h1, .inl rfl, fun _ => rfl⟩
        · refine ⟨h1, .inr ⟨?_, .inl rfl⟩, fun hh => ?_⟩
          · rcases h2 with h2 | h2
            · omega
            · exact h2.1
          · have := h3 hh; omega
      · exact ⟨h1, h2, h3⟩
end Go.Am.F10
end
section
namespace Go.Am.F10
open Go.Am.F06
theorem memF_app {step : MemSt → List AV → Option (AV × MemSt)} {M : MM} {j : Nat} {s s' : MemSt} {rest : List AV} {v : AV} (h : memF step (.ptr j 0 :: rest) M = some (v, M.set j (.abs (.mem s')))) (hs : M[j]? = some (.abs (.mem s))) (hst : step s rest = some (v, s')) (K : MM) : memF step (.ptr j 0 :: rest) (M ++ K) = some (v, M.set j (.abs (.mem s')) ++ K) := by
  have lj : j < M.length := (List.getElem?_eq_some_iff.1 hs).1
  simp only [memF]
  rw [List.getElem?_append_left lj, hs]
  simp only [hst, List.set_append_left _ _ lj]
theorem RelM.loadE {xs : List Int} {o : Int} {s : MemSt} (h : RelM xs o s) {a : Int} (ha : thr xs a) :
    ∃ s', RelM xs (IntKind.u64.wrap (o + 1)) s' ∧ loadS s [.int .i64 a] = some (.int .u64 (xs.getD a.toNat 0), s') ∧ (∀ (M K : MM) (j : Nat), M[j]? = some (.abs (.mem s)) → memF loadS [.ptr j 0, .int .i64 a] (M ++ K) = some (.int .u64 (xs.getD a.toNat 0), M.set j (.abs (.mem s')) ++ K)) ∧ ∀ (M : MM) (j : Nat), M[j]? = some (.abs (.mem s)) → memF loadS [.ptr j 0, .int .i64 a] M = some (.int .u64 (xs.getD a.toNat 0), M.set j (.abs (.mem s'))) := by
  obtain ⟨k, rfl⟩ : ∃ k : Nat, a = k := ⟨a.toNat, by have := ha.1; omega⟩
  have ha' : k < xs.length := by have := ha.2; omega
  obtain ⟨s', h1, h2⟩ := h.acc ha' 1 (fun w => (w, true))
  rw [getD_set ha'] at h2
  have hs : loadS s [.int .i64 k] = some (.int .u64 (xs.getD k 0), s') := by simp only [loadS, h1, Option.map_some]
  exact ⟨s', h2, hs, fun M K j hM => memF_app (memF_of hM hs) hM hs K, fun M j hM => memF_of hM hs⟩
theorem RelM.storeE {xs : List Int} {o : Int} {s : MemSt} (h : RelM xs o s) {a : Int} (ha : thr xs a) (x : Int) :
    ∃ s', RelM (xs.set a.toNat x) (IntKind.u64.wrap (o + 1)) s' ∧ storeS s [.int .i64 a, .int .u64 x] = some (.tup [], s') ∧ (∀ (M K : MM) (j : Nat), M[j]? = some (.abs (.mem s)) → memF storeS [.ptr j 0, .int .i64 a, .int .u64 x] (M ++ K) = some (.tup [], M.set j (.abs (.mem s')) ++ K)) ∧ ∀ (M : MM) (j : Nat), M[j]? = some (.abs (.mem s)) → memF storeS [.ptr j 0, .int .i64 a, .int .u64 x] M = some (.tup [], M.set j (.abs (.mem s'))) := by
  obtain ⟨k, rfl⟩ : ∃ k : Nat, a = k := ⟨a.toNat, by have := ha.1; omega⟩
  have ha' : k < xs.length := by have := ha.2; omega
  obtain ⟨s', h1, h2⟩ := h.acc ha' 2 (fun w => (x, true))
  have hs : storeS s [.int .i64 k, .int .u64 x] = some (.tup [], s') := by simp only [storeS, h1, Option.map_some]
  exact ⟨s', h2, hs, fun M K j hM => memF_app (memF_of hM hs) hM hs K, fun M j hM => memF_of hM hs⟩
theorem RelM.casE {xs : List Int} {o : Int} {s : MemSt} (h : RelM xs o s) {a : Int} (ha : thr xs a) (x y : Int) :
    ∃ s', RelM (if xs.getD a.toNat 0 = x then xs.set a.toNat y else xs) (IntKind.u64.wrap (o + 1)) s' ∧ casS s [.int .i64 a, .int .u64 x, .int .u64 y] = some (.bool (decide (xs.getD a.toNat 0 = x)), s') ∧ (∀ (M K : MM) (j : Nat), M[j]? = some (.abs (.mem s)) → memF casS [.ptr j 0, .int .i64 a, .int .u64 x, .int .u64 y] (M ++ K) = some (.bool (decide (xs.getD a.toNat 0 = x)), M.set j (.abs (.mem s')) ++ K)) ∧ ∀ (M : MM) (j : Nat), M[j]? = some (.abs (.mem s)) → memF casS [.ptr j 0, .int .i64 a, .int .u64 x, .int .u64 y] M = some (.bool (decide (xs.getD a.toNat 0 = x)), M.set j (.abs (.mem s'))) := by
  obtain ⟨k, rfl⟩ : ∃ k : Nat, a = k := ⟨a.toNat, by have := ha.1; omega⟩
  have ha' : k < xs.length := by have := ha.2; omega
  obtain ⟨s', h1, h2⟩ := h.acc ha' 3 (fun w => if w = x then (y, true) else (w, false))
  have hs : casS s [.int .i64 k, .int .u64 x, .int .u64 y] = some (.bool (decide (xs.getD k 0 = x)), s') := by
    simp only [casS, h1, Option.map_some]
    by_cases hx : xs.getD k 0 = x
    · simp only [if_pos hx, decide_eq_true hx]
    · simp only [if_neg hx, decide_eq_false hx]
  refine ⟨s', ?_, hs, fun M K j hM => memF_app (memF_of hM hs) hM hs K, fun M j hM => memF_of hM hs⟩
  rw [Int.toNat_natCast]
  by_cases hx : xs.getD k 0 = x
  · simp only [if_pos hx] at h2 ⊢; exact h2
  · simp only [if_neg hx, getD_set ha'] at h2 ⊢; exact h2
def GsQ (m : MM) (c : Cf) (p : Int) (j i : Nat) (x : GS × List Int) (o a0 : Int) (r : AV) (m' : MM) : Prop := KeepX j i m m' ∧ r = .int .i64 x.1.a ∧ m'[j]? = some (.cells 12 false (gC c p { x.1 with a := a0 })) ∧ ∃ st', m'[i]? = some (.abs (.mem st')) ∧ RelM x.2 o st'
theorem GsQ.of {m : MM} {c : Cf} {p : Int} {j i : Nat} {x : GS × List Int} {o a0 : Int} {st' : MemSt} {r : AV} {C : List AV} (hij : j ≠ i) (li : i < m.length) (lj : j < m.length) (hr : RelM x.2 o st') (hC : C = gC c p { x.1 with a := a0 }) (hv : r = .int .i64 x.1.a) (K : MM) :
    GsQ m c p j i x o a0 r ((m.set i (.abs (.mem st'))).set j (.cells 12 false C) ++ K) := by
  subst hC
  refine ⟨(((KeepX.refl m).setR _).setL _).app K, hv, ?_, st', ?_, hr⟩
  · rw [List.getElem?_append_left (by simpa using lj), List.getElem?_set_self (by simpa using lj)]
  · rw [List.getElem?_append_left (by simpa using li), List.getElem?_set_ne hij, List.getElem?_set_self li]
end Go.Am.F10
end
section
namespace Go.Am.F10
open Go.Am.F06
theorem _root_.Go.Am.Sl.put {X : Type} {m : Mem X} {wr : Bool} {sz n : Nat} {l : List AV} {v : AV} (h : Sl m wr sz n l v) {b : Nat} (hb : ∀ ro L, m[b]? ≠ some (.cells sz ro L)) (C : Chunk X) : Sl (m.set b C) wr sz n l v := by
  refine ⟨h.1, ?_⟩
  rcases h.2 with h1 | ⟨q, o, cap, h1, h2⟩
  · exact .inl h1
  · refine .inr ⟨q, o, cap, h1, fun h0 => ?_⟩
    obtain ⟨ro, L, h3, h4⟩ := h2 h0
    refine ⟨ro, L, ?_, h4⟩
    rw [List.getElem?_set_ne (fun hq => hb ro L (by rw [hq]; exact h3))]; exact h3
def Gsmem : List (Nat × AFun Ob) := [(34, memF fun s rest => (lenAsk s rest).map fun v => (v, s)), (46, memF fun s rest => (opsAsk s rest).map fun v => (v, s)), (47, memNF allS), (58, F06.c_docs_SameCells)]
set_option maxHeartbeats 8000000 in
theorem samemem_run {m : MM} {wr : Bool} {j : Nat} {xs : List Int} {o : Int} {v : AV} {s : MemSt} (hj : m[j]? = some (.abs (.mem s))) (hr : RelM xs o s) (hs : SU m wr xs v) (hn : xs.length ≤ 65536) :
    Fn Gsmem docs_SameMem [.ptr j 0, .agg (memC v o)] m (fun r m' => r = .bool true ∧ Keep m m') := by
  have a34 : assoc Gsmem 34 = some (memF fun s rest => (lenAsk s rest).map fun v => (v, s)) := rfl
  have a46 : assoc Gsmem 46 = some (memF fun s rest => (opsAsk s rest).map fun v => (v, s)) := rfl
  have a47 : assoc Gsmem 47 = some (memNF allS) := rfl
  have a58 : assoc Gsmem 58 = some F06.c_docs_SameCells := rfl
  generalize Gsmem = G at a34 a46 a47 a58 ⊢
  obtain ⟨rfl, rfl, hlog⟩ := hr
  have hone := slOne hs
  simp only [AV.one] at hone
  have hlen := hs.len
  have lj : j < m.length := (List.getElem?_eq_some_iff.1 hj).1
  have hj1 : (m ++ [Chunk.cells 2 false [v, .int .u64 s.ops]])[j]? = some (.abs (.mem s)) := by rw [List.getElem?_append_left lj]; exact hj
  have f34 := len_of hj1
  have f46 := ops_of hj1
  obtain ⟨l1, f47, s47, q47⟩ := all_of hj1 (by omega)
  have hs2 : SU (m ++ [Chunk.cells 2 false [v, .int .u64 s.ops]] ++ [.cells 1 false (uC s.cells)]) wr s.cells v := (hs.keep (Keep.app m _)).keep (Keep.app _ _)
  generalize hC : Chunk.cells 1 false (uC s.cells) = C at f47 s47 hs2
  have g1 : (m ++ [Chunk.cells 2 false [v, .int .u64 s.ops]])[m.length]? = some (Chunk.cells 2 false [v, .int .u64 s.ops]) := get_concat
  have g2 : (m ++ [Chunk.cells 2 false [v, .int .u64 s.ops]] ++ [C])[m.length]? = some (Chunk.cells 2 false [v, .int .u64 s.ops]) := by rw [List.getElem?_append_left (by simp)]; exact g1
  have hoff : Off (slq l1) v := by
    rw [q47]; exact sl_off hs (by simp)
  refine Fn_of rfl ?_
  simp (disch := first | assumption | omega | (simp only [List.length_cons, List.length_nil, List.length_set, List.length_append] <;> omega) | (simp only [get_mid, get_mid0, List.cons_append, List.append_assoc, List.getElem?_cons_zero, List.getElem?_cons_succ])) only [docs_SameMem, ek, ↓evW, ↓evQ, evB, evS, evL, List.map, AV.cells, List.all, AV.one, Bool.and_true, Bool.true_and, if_true, ↓thenQ_normal, ↓thenQ_exit, ↓thenQ_ret, ↓blockQ_normal, ↓blockQ_ret, ↓blockQ_exit, ↓CW_true, ↓CW_false, CW_true, CW_false, condT, condF, RQ_some, tupA_one, tupA_two, tupA_nil, Nat.reduceSub, Nat.reduceAdd, Nat.reduceMul, Nat.zero_add, Nat.add_zero, Nat.reduceLeDiff, Nat.reduceEqDiff, eqV, eqAll, fillA, and_self, and_true, true_and, Nat.le_refl, Bool.not_true, Bool.not_false, Bool.false_xor, Bool.true_xor, cond_true, cond_false, List.replicate, if_false, reduceIte, resAll, resA, ne_eq, decide_not, decide_true, decide_false, Int.reduceEq, Bool.not_true, Bool.not_false, not_true_eq_false, not_false_eq_true, cond_bool, cond_int, beq_self_eq_true, Int.reduceBEq, Bool.and_self, Bool.and_false, Bool.false_and, Bool.xor_false, Bool.xor_true, loadN_ldC, ldC_none, ldC_somes, stC_aggs, splice, storeN_stC, stC_int, stC_bool, stC_ptr, stC_nilp, stC_sl, stC_nils, getC_gcO, gcO_cells, W_draw_eq, ↓W_scope, ev_clear, evT, evF, evX, evM, ↓exitQ_normal, ↓exitQ_ret, ↓exitQ_exit, saA_self, saO_self, if_pos, if_neg, wrapI, get_concat, set_concat, Int.toNat_natCast, Int.toNat_zero, List.nil_append, Nat.mul_one, decide_eq_true, decide_eq_false, Int.reduceLE, Int.reduceLT, Int.reduceNeg, Bool.false_or, Bool.true_or, Bool.or_false, Bool.or_true, wrapU, Int.reduceAdd, Int.reduceSub, Int.reduceMul, memC, hone, ev_len, hlen, g1, a34, f34, a46, f46, a47, f47, g2, a58, F06.c_docs_SameCells]
  refine OKT_fn (samecells_run s47 hs2 hoff (by omega)) ?_
  rintro _ M4 ⟨rfl, k4⟩
  have hl4 : m.length + 2 ≤ M4.length := by have := k4.1; simpa using this
  have hK4 : Keep m M4 := by
    refine ⟨by omega, fun i hi => ?_⟩
    rw [k4.2 i (by simp; omega) (by rw [q47]; simp; omega), List.getElem?_append_left (by simp; omega), List.getElem?_append_left hi]
  simp (disch := first | assumption | omega | (simp only [List.length_cons, List.length_nil, List.length_set, List.length_append] <;> omega) | (simp only [get_mid, get_mid0, List.cons_append, List.append_assoc, List.getElem?_cons_zero, List.getElem?_cons_succ])) only [ek, ↓evW, ↓evQ, evB, evS, evL, List.map, AV.cells, List.all, AV.one, Bool.and_true, Bool.true_and, if_true, ↓thenQ_normal, ↓thenQ_exit, ↓thenQ_ret, ↓blockQ_normal, ↓blockQ_ret, ↓blockQ_exit, ↓CW_true, ↓CW_false, CW_true, CW_false, condT, condF, RQ_some, tupA_one, tupA_two, tupA_nil, Nat.reduceSub, Nat.reduceAdd, Nat.reduceMul, Nat.zero_add, Nat.add_zero, Nat.reduceLeDiff, Nat.reduceEqDiff, eqV, eqAll, fillA, and_self, and_true, true_and, Nat.le_refl, Bool.not_true, Bool.not_false, Bool.false_xor, Bool.true_xor, cond_true, cond_false, List.replicate, if_false, reduceIte, resAll, resA, ne_eq, decide_not, decide_true, decide_false, Int.reduceEq, Bool.not_true, Bool.not_false, not_true_eq_false, not_false_eq_true, cond_bool, cond_int, beq_self_eq_true, Int.reduceBEq, Bool.and_self, Bool.and_false, Bool.false_and, Bool.xor_false, Bool.xor_true, loadN_ldC, ldC_none, ldC_somes, stC_aggs, splice, storeN_stC, stC_int, stC_bool, stC_ptr, stC_nilp, stC_sl, stC_nils, getC_gcO, gcO_cells, W_draw_eq, ↓W_scope, ev_clear, evT, evF, evX, evM, ↓exitQ_normal, ↓exitQ_ret, ↓exitQ_exit, saA_self, saO_self, if_pos, if_neg, wrapI, get_concat, set_concat, Int.toNat_natCast, Int.toNat_zero, List.nil_append, Nat.mul_one, decide_eq_true, decide_eq_false, Int.reduceLE, Int.reduceLT, Int.reduceNeg, Bool.false_or, Bool.true_or, Bool.or_false, Bool.or_true, wrapU, Int.reduceAdd, Int.reduceSub, Int.reduceMul, g1, g2]
  exact hK4
structure Pk where
  d : Bool
  a : Int
  v : Int
def pkC (x : Pk) : List AV := [.bool x.d, .int .i64 x.a, .int .u64 x.v]
abbrev SPk {X : Type} (m : Mem X) (wr : Bool) (es : List Pk) (v : AV) : Prop := Sl m wr 3 es.length (es.flatMap pkC) v
theorem spk_get {X : Type} {m : Mem X} {wr : Bool} {es : List Pk} {v : AV} (h : SPk m wr es v) {i : Nat} {e : Pk} (he : es[i]? = some e) : ∃ q o cap ro L, v = .sl q o es.length cap ∧ m[q]? = some (.cells 3 ro L) ∧ i < es.length ∧ o + i * 3 + 3 ≤ L.length ∧
    L[o + i * 3]? = some (.bool e.d) ∧ L[o + i * 3 + 1]? = some (.int .i64 e.a) ∧ L[o + i * 3 + 2]? = some (.int .u64 e.v) := by
  have hi : i < es.length := (List.getElem?_eq_some_iff.1 he).1
  obtain ⟨q, o, cap, ro, L, rfl, h2, h3, h4, h5⟩ := h.at (by omega)
  have hL : ∀ k, k < 3 → L[o + i * 3 + k]? = (pkC e)[k]? := by
    intro k hk
    rw [Nat.add_assoc, sl_get h3 (by omega), rows_at (f := pkC) (sz := 3) (fun _ => rfl) he hk]
  exact ⟨q, o, cap, ro, L, rfl, h2, hi, by omega, hL 0 (by omega), hL 1 (by omega), hL 2 (by omega)⟩
end Go.Am.F10
end
section
namespace Go.Am.F10
open Go.Am.F06
end Go.Am.F10
end
section
namespace Go.Am.F10
variable {X : Type}
def iC (xs : List Int) : List AV := xs.map (AV.int .i64)
theorem iC_at {xs : List Int} {k : Nat} {x : Int} (h : xs[k]? = some x) : (iC xs)[k]? = some (.int .i64 x) := by simp [iC, h]
theorem iC_len (xs : List Int) : (iC xs).length = xs.length := by simp [iC]
theorem iC_one (xs : List Int) : (iC xs).all AV.one = true := by simp [iC, AV.one]
theorem iC_app (xs : List Int) (x : Int) : iC (xs ++ [x]) = iC xs ++ [.int .i64 x] := by simp [iC]
abbrev SI (m : Mem X) (wr : Bool) (xs : List Int) (v : AV) : Prop := Sl m wr 1 xs.length (iC xs) v
theorem SI.val {m : Mem X} {wr : Bool} {xs : List Int} {v : AV} (h : SI m wr xs v) (hn : 0 < xs.length) : ∃ q o cap ro L, v = .sl q o xs.length cap ∧ m[q]? = some (.cells 1 ro L) ∧ (wr = true → ro = false) ∧ o + xs.length ≤ L.length ∧ ∀ (i : Nat) (x : Int), xs[i]? = some x → L[o + i]? = some (.int .i64 x) := by
  obtain ⟨q, o, cap, ro, L, h1, h2, h3, h4, h5⟩ := h.at hn
  refine ⟨q, o, cap, ro, L, h1, h2, h5, by omega, fun i x hx => ?_⟩
  have hi : i < xs.length := (List.getElem?_eq_some_iff.1 hx).1
  rw [sl_get h3 (by omega)]; exact iC_at hx
def MInv (n : Nat) (a b : AV) (xs ys : List Int) (m0 : Mem X) (k : Nat) (e : List AV) (m : Mem X) : Prop := ∃ (i : Nat) (x4 x5 x6 : AV),
  e = [a, b, .bool false, .int .i64 i, x4, x5, x6] ∧ m = m0 ∧ k = n - i ∧ i ≤ n ∧ ∀ j, j < i → xs[j]? = ys[j]?
theorem same_run {m : Mem X} {w1 w2 : Bool} {xs ys : List Int} {a b : AV} (ha : SI m w1 xs a) (hb : SI m w2 ys b) (hx : xs.length < FUEL) : Fn [] kit_SameInts [a, b] m (fun r m' => r = .bool (decide (xs = ys)) ∧ m' = m) := by
  refine Fn_of rfl ?_
  have hF : xs.length < 1099511627776 := hx
  have h1 := ha.len
  have h2 := hb.len
  by_cases hn : xs.length = ys.length
  · rcases Nat.eq_zero_or_pos xs.length with h0 | h0
    · have hx0 : xs = [] := List.length_eq_zero_iff.1 h0
      have hy0 : ys = [] := List.length_eq_zero_iff.1 (by omega)
      rw [hx0] at h1; rw [hy0] at h2
      subst hx0; subst hy0
      simp (disch := first | assumption | omega | (simp only [List.length_cons, List.length_nil, List.length_set, List.length_append] <;> omega) | (simp only [get_mid, get_mid0, List.cons_append, List.append_assoc, List.getElem?_cons_zero, List.getElem?_cons_succ])) only [kit_SameInts, ek, ↓evW, ↓evQ, evB, evS, evL, List.map, AV.cells, List.all, AV.one, Bool.and_true, Bool.true_and, if_true, ↓thenQ_normal, ↓thenQ_exit, ↓thenQ_ret, ↓blockQ_normal, ↓blockQ_ret, ↓blockQ_exit, ↓CW_true, ↓CW_false, CW_true, CW_false, condT, condF, RQ_some, tupA_one, tupA_two, tupA_nil, Nat.reduceSub, Nat.reduceAdd, Nat.reduceMul, Nat.zero_add, Nat.add_zero, Nat.reduceLeDiff, Nat.reduceEqDiff, eqV, eqAll, fillA, and_self, and_true, true_and, Nat.le_refl, Bool.not_true, Bool.not_false, Bool.false_xor, Bool.true_xor, cond_true, cond_false, List.replicate, if_false, reduceIte, resAll, resA, ne_eq, decide_not, decide_true, decide_false, Int.reduceEq, Bool.not_true, Bool.not_false, not_true_eq_false, not_false_eq_true, cond_bool, cond_int, beq_self_eq_true, Int.reduceBEq, Bool.and_self, Bool.and_false, Bool.false_and, Bool.xor_false, Bool.xor_true, loadN_ldC, ldC_none, ldC_somes, stC_aggs, splice, storeN_stC, stC_int, stC_bool, stC_ptr, stC_nilp, stC_sl, stC_nils, getC_gcO, gcO_cells, W_draw_eq, ↓W_scope, ev_clear, evT, evF, evX, evM, ↓exitQ_normal, ↓exitQ_ret, ↓exitQ_exit, saA_self, saO_self, if_pos, if_neg, wrapI, get_concat, set_concat, Int.toNat_natCast, Int.toNat_zero, List.nil_append, Nat.mul_one, decide_eq_true, decide_eq_false, Int.reduceLE, Int.reduceLT, Int.reduceNeg, Bool.false_or, Bool.true_or, Bool.or_false, Bool.or_true, wrapU, Int.reduceAdd, Int.reduceSub, Int.reduceMul, ev_len, h1, h2]
      refine W_loop (fun k e m' => ∃ x4 x5 x6 : AV, e = [a, b, .bool false, .int .i64 0, x4, x5, x6] ∧ m' = m) 0 (by simp [FUEL]) ⟨_, _, _, rfl, rfl⟩ ?_
      rintro k e m' ⟨x4, x5, x6, rfl, rfl⟩
      simp (disch := first | assumption | omega | (simp only [List.length_cons, List.length_nil, List.length_set, List.length_append] <;> omega) | (simp only [get_mid, get_mid0, List.cons_append, List.append_assoc, List.getElem?_cons_zero, List.getElem?_cons_succ])) only [ek, ↓evW, ↓evQ, evB, evS, evL, List.map, AV.cells, List.all, AV.one, Bool.and_true, Bool.true_and, if_true, ↓thenQ_normal, ↓thenQ_exit, ↓thenQ_ret, ↓blockQ_normal, ↓blockQ_ret, ↓blockQ_exit, ↓CW_true, ↓CW_false, CW_true, CW_false, condT, condF, RQ_some, tupA_one, tupA_two, tupA_nil, Nat.reduceSub, Nat.reduceAdd, Nat.reduceMul, Nat.zero_add, Nat.add_zero, Nat.reduceLeDiff, Nat.reduceEqDiff, eqV, eqAll, fillA, and_self, and_true, true_and, Nat.le_refl, Bool.not_true, Bool.not_false, Bool.false_xor, Bool.true_xor, cond_true, cond_false, List.replicate, if_false, reduceIte, resAll, resA, ne_eq, decide_not, decide_true, decide_false, Int.reduceEq, Bool.not_true, Bool.not_false, not_true_eq_false, not_false_eq_true, cond_bool, cond_int, beq_self_eq_true, Int.reduceBEq, Bool.and_self, Bool.and_false, Bool.false_and, Bool.xor_false, Bool.xor_true, loadN_ldC, ldC_none, ldC_somes, stC_aggs, splice, storeN_stC, stC_int, stC_bool, stC_ptr, stC_nilp, stC_sl, stC_nils, getC_gcO, gcO_cells, W_draw_eq, ↓W_scope, ev_clear, evT, evF, evX, evM, ↓exitQ_normal, ↓exitQ_ret, ↓exitQ_exit, saA_self, saO_self, if_pos, if_neg, wrapI, get_concat, set_concat, Int.toNat_natCast, Int.toNat_zero, List.nil_append, Nat.mul_one, decide_eq_true, decide_eq_false, Int.reduceLE, Int.reduceLT, Int.reduceNeg, Bool.false_or, Bool.true_or, Bool.or_false, Bool.or_true, wrapU, Int.reduceAdd, Int.reduceSub, Int.reduceMul, ev_len, h1]
    · obtain ⟨q, o, cap, ro, L, rfl, hq, _, hL, hat⟩ := ha.val h0
      obtain ⟨q', o', cap', ro', L', rfl, hq', _, hL', hat'⟩ := hb.val (by omega)
      simp (disch := first | assumption | omega | (simp only [List.length_cons, List.length_nil, List.length_set, List.length_append] <;> omega) | (simp only [get_mid, get_mid0, List.cons_append, List.append_assoc, List.getElem?_cons_zero, List.getElem?_cons_succ])) only [kit_SameInts, ek, ↓evW, ↓evQ, evB, evS, evL, List.map, AV.cells, List.all, AV.one, Bool.and_true, Bool.true_and, if_true, ↓thenQ_normal, ↓thenQ_exit, ↓thenQ_ret, ↓blockQ_normal, ↓blockQ_ret, ↓blockQ_exit, ↓CW_true, ↓CW_false, CW_true, CW_false, condT, condF, RQ_some, tupA_one, tupA_two, tupA_nil, Nat.reduceSub, Nat.reduceAdd, Nat.reduceMul, Nat.zero_add, Nat.add_zero, Nat.reduceLeDiff, Nat.reduceEqDiff, eqV, eqAll, fillA, and_self, and_true, true_and, Nat.le_refl, Bool.not_true, Bool.not_false, Bool.false_xor, Bool.true_xor, cond_true, cond_false, List.replicate, if_false, reduceIte, resAll, resA, ne_eq, decide_not, decide_true, decide_false, Int.reduceEq, Bool.not_true, Bool.not_false, not_true_eq_false, not_false_eq_true, cond_bool, cond_int, beq_self_eq_true, Int.reduceBEq, Bool.and_self, Bool.and_false, Bool.false_and, Bool.xor_false, Bool.xor_true, loadN_ldC, ldC_none, ldC_somes, stC_aggs, splice, storeN_stC, stC_int, stC_bool, stC_ptr, stC_nilp, stC_sl, stC_nils, getC_gcO, gcO_cells, W_draw_eq, ↓W_scope, ev_clear, evT, evF, evX, evM, ↓exitQ_normal, ↓exitQ_ret, ↓exitQ_exit, saA_self, saO_self, if_pos, if_neg, wrapI, get_concat, set_concat, Int.toNat_natCast, Int.toNat_zero, List.nil_append, Nat.mul_one, decide_eq_true, decide_eq_false, Int.reduceLE, Int.reduceLT, Int.reduceNeg, Bool.false_or, Bool.true_or, Bool.or_false, Bool.or_true, wrapU, Int.reduceAdd, Int.reduceSub, Int.reduceMul]
      refine W_loop (MInv xs.length (.sl q o xs.length cap) (.sl q' o' ys.length cap') xs ys m) xs.length hx ⟨0, _, _, _, rfl, rfl, rfl, Nat.zero_le _, fun j hj => by omega⟩ ?_
      rintro k e m' ⟨i, x4, x5, x6, rfl, rfl, rfl, hi, heq⟩
      simp (disch := first | assumption | omega | (simp only [List.length_cons, List.length_nil, List.length_set, List.length_append] <;> omega) | (simp only [get_mid, get_mid0, List.cons_append, List.append_assoc, List.getElem?_cons_zero, List.getElem?_cons_succ])) only [ek, ↓evW, ↓evQ, evB, evS, evL, List.map, AV.cells, List.all, AV.one, Bool.and_true, Bool.true_and, if_true, ↓thenQ_normal, ↓thenQ_exit, ↓thenQ_ret, ↓blockQ_normal, ↓blockQ_ret, ↓blockQ_exit, ↓CW_true, ↓CW_false, CW_true, CW_false, condT, condF, RQ_some, tupA_one, tupA_two, tupA_nil, Nat.reduceSub, Nat.reduceAdd, Nat.reduceMul, Nat.zero_add, Nat.add_zero, Nat.reduceLeDiff, Nat.reduceEqDiff, eqV, eqAll, fillA, and_self, and_true, true_and, Nat.le_refl, Bool.not_true, Bool.not_false, Bool.false_xor, Bool.true_xor, cond_true, cond_false, List.replicate, if_false, reduceIte, resAll, resA, ne_eq, decide_not, decide_true, decide_false, Int.reduceEq, Bool.not_true, Bool.not_false, not_true_eq_false, not_false_eq_true, cond_bool, cond_int, beq_self_eq_true, Int.reduceBEq, Bool.and_self, Bool.and_false, Bool.false_and, Bool.xor_false, Bool.xor_true, loadN_ldC, ldC_none, ldC_somes, stC_aggs, splice, storeN_stC, stC_int, stC_bool, stC_ptr, stC_nilp, stC_sl, stC_nils, getC_gcO, gcO_cells, W_draw_eq, ↓W_scope, ev_clear, evT, evF, evX, evM, ↓exitQ_normal, ↓exitQ_ret, ↓exitQ_exit, saA_self, saO_self, if_pos, if_neg, wrapI, get_concat, set_concat, Int.toNat_natCast, Int.toNat_zero, List.nil_append, Nat.mul_one, decide_eq_true, decide_eq_false, Int.reduceLE, Int.reduceLT, Int.reduceNeg, Bool.false_or, Bool.true_or, Bool.or_false, Bool.or_true, wrapU, Int.reduceAdd, Int.reduceSub, Int.reduceMul]
      refine CW_of (fun h => ?_) (fun h => ?_)
      · simp only [decide_eq_true_eq] at h
        obtain ⟨x, hxi⟩ : ∃ x, xs[i]? = some x := ⟨_, List.getElem?_eq_getElem (by omega)⟩
        obtain ⟨y, hyi⟩ : ∃ y, ys[i]? = some y := ⟨_, List.getElem?_eq_getElem (by omega)⟩
        simp (disch := first | assumption | omega | (simp only [List.length_cons, List.length_nil, List.length_set, List.length_append] <;> omega) | (simp only [get_mid, get_mid0, List.cons_append, List.append_assoc, List.getElem?_cons_zero, List.getElem?_cons_succ])) only [ek, ↓evW, ↓evQ, evB, evS, evL, List.map, AV.cells, List.all, AV.one, Bool.and_true, Bool.true_and, if_true, ↓thenQ_normal, ↓thenQ_exit, ↓thenQ_ret, ↓blockQ_normal, ↓blockQ_ret, ↓blockQ_exit, ↓CW_true, ↓CW_false, CW_true, CW_false, condT, condF, RQ_some, tupA_one, tupA_two, tupA_nil, Nat.reduceSub, Nat.reduceAdd, Nat.reduceMul, Nat.zero_add, Nat.add_zero, Nat.reduceLeDiff, Nat.reduceEqDiff, eqV, eqAll, fillA, and_self, and_true, true_and, Nat.le_refl, Bool.not_true, Bool.not_false, Bool.false_xor, Bool.true_xor, cond_true, cond_false, List.replicate, if_false, reduceIte, resAll, resA, ne_eq, decide_not, decide_true, decide_false, Int.reduceEq, Bool.not_true, Bool.not_false, not_true_eq_false, not_false_eq_true, cond_bool, cond_int, beq_self_eq_true, Int.reduceBEq, Bool.and_self, Bool.and_false, Bool.false_and, Bool.xor_false, Bool.xor_true, loadN_ldC, ldC_none, ldC_somes, stC_aggs, splice, storeN_stC, stC_int, stC_bool, stC_ptr, stC_nilp, stC_sl, stC_nils, getC_gcO, gcO_cells, W_draw_eq, ↓W_scope, ev_clear, evT, evF, evX, evM, ↓exitQ_normal, ↓exitQ_ret, ↓exitQ_exit, saA_self, saO_self, if_pos, if_neg, wrapI, get_concat, set_concat, Int.toNat_natCast, Int.toNat_zero, List.nil_append, Nat.mul_one, decide_eq_true, decide_eq_false, Int.reduceLE, Int.reduceLT, Int.reduceNeg, Bool.false_or, Bool.true_or, Bool.or_false, Bool.or_true, wrapU, Int.reduceAdd, Int.reduceSub, Int.reduceMul, hq, hq', hat i x hxi, hat' i y hyi]
        by_cases hxy : x = y
        · subst hxy
          simp (disch := first | assumption | omega | (simp only [List.length_cons, List.length_nil, List.length_set, List.length_append] <;> omega) | (simp only [get_mid, get_mid0, List.cons_append, List.append_assoc, List.getElem?_cons_zero, List.getElem?_cons_succ])) only [ek, ↓evW, ↓evQ, evB, evS, evL, List.map, AV.cells, List.all, AV.one, Bool.and_true, Bool.true_and, if_true, ↓thenQ_normal, ↓thenQ_exit, ↓thenQ_ret, ↓blockQ_normal, ↓blockQ_ret, ↓blockQ_exit, ↓CW_true, ↓CW_false, CW_true, CW_false, condT, condF, RQ_some, tupA_one, tupA_two, tupA_nil, Nat.reduceSub, Nat.reduceAdd, Nat.reduceMul, Nat.zero_add, Nat.add_zero, Nat.reduceLeDiff, Nat.reduceEqDiff, eqV, eqAll, fillA, and_self, and_true, true_and, Nat.le_refl, Bool.not_true, Bool.not_false, Bool.false_xor, Bool.true_xor, cond_true, cond_false, List.replicate, if_false, reduceIte, resAll, resA, ne_eq, decide_not, decide_true, decide_false, Int.reduceEq, Bool.not_true, Bool.not_false, not_true_eq_false, not_false_eq_true, cond_bool, cond_int, beq_self_eq_true, Int.reduceBEq, Bool.and_self, Bool.and_false, Bool.false_and, Bool.xor_false, Bool.xor_true, loadN_ldC, ldC_none, ldC_somes, stC_aggs, splice, storeN_stC, stC_int, stC_bool, stC_ptr, stC_nilp, stC_sl, stC_nils, getC_gcO, gcO_cells, W_draw_eq, ↓W_scope, ev_clear, evT, evF, evX, evM, ↓exitQ_normal, ↓exitQ_ret, ↓exitQ_exit, saA_self, saO_self, if_pos, if_neg, wrapI, get_concat, set_concat, Int.toNat_natCast, Int.toNat_zero, List.nil_append, Nat.mul_one, decide_eq_true, decide_eq_false, Int.reduceLE, Int.reduceLT, Int.reduceNeg, Bool.false_or, Bool.true_or, Bool.or_false, Bool.or_true, wrapU, Int.reduceAdd, Int.reduceSub, Int.reduceMul]
          refine ⟨_, by omega, i + 1, _, _, _, rfl, rfl, rfl, by omega, fun j hj => ?_⟩
          by_cases hji : j = i
          · subst hji; rw [hxi, hyi]
          · exact heq j (by omega)
        · simp (disch := first | assumption | omega | (simp only [List.length_cons, List.length_nil, List.length_set, List.length_append] <;> omega) | (simp only [get_mid, get_mid0, List.cons_append, List.append_assoc, List.getElem?_cons_zero, List.getElem?_cons_succ])) only [ek, ↓evW, ↓evQ, evB, evS, evL, List.map, AV.cells, List.all, AV.one, Bool.and_true, Bool.true_and, if_true, ↓thenQ_normal, ↓thenQ_exit, ↓thenQ_ret, ↓blockQ_normal, ↓blockQ_ret, ↓blockQ_exit, ↓CW_true, ↓CW_false, CW_true, CW_false, condT, condF, RQ_some, tupA_one, tupA_two, tupA_nil, Nat.reduceSub, Nat.reduceAdd, Nat.reduceMul, Nat.zero_add, Nat.add_zero, Nat.reduceLeDiff, Nat.reduceEqDiff, eqV, eqAll, fillA, and_self, and_true, true_and, Nat.le_refl, Bool.not_true, Bool.not_false, Bool.false_xor, Bool.true_xor, cond_true, cond_false, List.replicate, if_false, reduceIte, resAll, resA, ne_eq, decide_not, decide_true, decide_false, Int.reduceEq, Bool.not_true, Bool.not_false, not_true_eq_false, not_false_eq_true, cond_bool, cond_int, beq_self_eq_true, Int.reduceBEq, Bool.and_self, Bool.and_false, Bool.false_and, Bool.xor_false, Bool.xor_true, loadN_ldC, ldC_none, ldC_somes, stC_aggs, splice, storeN_stC, stC_int, stC_bool, stC_ptr, stC_nilp, stC_sl, stC_nils, getC_gcO, gcO_cells, W_draw_eq, ↓W_scope, ev_clear, evT, evF, evX, evM, ↓exitQ_normal, ↓exitQ_ret, ↓exitQ_exit, saA_self, saO_self, if_pos, if_neg, wrapI, get_concat, set_concat, Int.toNat_natCast, Int.toNat_zero, List.nil_append, Nat.mul_one, decide_eq_true, decide_eq_false, Int.reduceLE, Int.reduceLT, Int.reduceNeg, Bool.false_or, Bool.true_or, Bool.or_false, Bool.or_true, wrapU, Int.reduceAdd, Int.reduceSub, Int.reduceMul, hxy]
          have : ¬ xs = ys := fun h => by rw [h, hyi] at hxi; injection hxi with hxi; exact hxy hxi.symm
          simp [this]
      · simp only [decide_eq_false_iff_not] at h
        simp (disch := first | assumption | omega | (simp only [List.length_cons, List.length_nil, List.length_set, List.length_append] <;> omega) | (simp only [get_mid, get_mid0, List.cons_append, List.append_assoc, List.getElem?_cons_zero, List.getElem?_cons_succ])) only [ek, ↓evW, ↓evQ, evB, evS, evL, List.map, AV.cells, List.all, AV.one, Bool.and_true, Bool.true_and, if_true, ↓thenQ_normal, ↓thenQ_exit, ↓thenQ_ret, ↓blockQ_normal, ↓blockQ_ret, ↓blockQ_exit, ↓CW_true, ↓CW_false, CW_true, CW_false, condT, condF, RQ_some, tupA_one, tupA_two, tupA_nil, Nat.reduceSub, Nat.reduceAdd, Nat.reduceMul, Nat.zero_add, Nat.add_zero, Nat.reduceLeDiff, Nat.reduceEqDiff, eqV, eqAll, fillA, and_self, and_true, true_and, Nat.le_refl, Bool.not_true, Bool.not_false, Bool.false_xor, Bool.true_xor, cond_true, cond_false, List.replicate, if_false, reduceIte, resAll, resA, ne_eq, decide_not, decide_true, decide_false, Int.reduceEq, Bool.not_true, Bool.not_false, not_true_eq_false, not_false_eq_true, cond_bool, cond_int, beq_self_eq_true, Int.reduceBEq, Bool.and_self, Bool.and_false, Bool.false_and, Bool.xor_false, Bool.xor_true, loadN_ldC, ldC_none, ldC_somes, stC_aggs, splice, storeN_stC, stC_int, stC_bool, stC_ptr, stC_nilp, stC_sl, stC_nils, getC_gcO, gcO_cells, W_draw_eq, ↓W_scope, ev_clear, evT, evF, evX, evM, ↓exitQ_normal, ↓exitQ_ret, ↓exitQ_exit, saA_self, saO_self, if_pos, if_neg, wrapI, get_concat, set_concat, Int.toNat_natCast, Int.toNat_zero, List.nil_append, Nat.mul_one, decide_eq_true, decide_eq_false, Int.reduceLE, Int.reduceLT, Int.reduceNeg, Bool.false_or, Bool.true_or, Bool.or_false, Bool.or_true, wrapU, Int.reduceAdd, Int.reduceSub, Int.reduceMul]
        have : xs = ys := List.ext_getElem? fun j => by
          by_cases hj : j < i
          · exact heq j hj
          · rw [List.getElem?_eq_none (by omega), List.getElem?_eq_none (by omega)]
        simp [this]
  · have hne : ¬ ((xs.length : Int) = ys.length) := by omega
    have : ¬ xs = ys := fun h => hn (by rw [h])
    simp (disch := first | assumption | omega | (simp only [List.length_cons, List.length_nil, List.length_set, List.length_append] <;> omega) | (simp only [get_mid, get_mid0, List.cons_append, List.append_assoc, List.getElem?_cons_zero, List.getElem?_cons_succ])) only [kit_SameInts, ek, ↓evW, ↓evQ, evB, evS, evL, List.map, AV.cells, List.all, AV.one, Bool.and_true, Bool.true_and, if_true, ↓thenQ_normal, ↓thenQ_exit, ↓thenQ_ret, ↓blockQ_normal, ↓blockQ_ret, ↓blockQ_exit, ↓CW_true, ↓CW_false, CW_true, CW_false, condT, condF, RQ_some, tupA_one, tupA_two, tupA_nil, Nat.reduceSub, Nat.reduceAdd, Nat.reduceMul, Nat.zero_add, Nat.add_zero, Nat.reduceLeDiff, Nat.reduceEqDiff, eqV, eqAll, fillA, and_self, and_true, true_and, Nat.le_refl, Bool.not_true, Bool.not_false, Bool.false_xor, Bool.true_xor, cond_true, cond_false, List.replicate, if_false, reduceIte, resAll, resA, ne_eq, decide_not, decide_true, decide_false, Int.reduceEq, Bool.not_true, Bool.not_false, not_true_eq_false, not_false_eq_true, cond_bool, cond_int, beq_self_eq_true, Int.reduceBEq, Bool.and_self, Bool.and_false, Bool.false_and, Bool.xor_false, Bool.xor_true, loadN_ldC, ldC_none, ldC_somes, stC_aggs, splice, storeN_stC, stC_int, stC_bool, stC_ptr, stC_nilp, stC_sl, stC_nils, getC_gcO, gcO_cells, W_draw_eq, ↓W_scope, ev_clear, evT, evF, evX, evM, ↓exitQ_normal, ↓exitQ_ret, ↓exitQ_exit, saA_self, saO_self, if_pos, if_neg, wrapI, get_concat, set_concat, Int.toNat_natCast, Int.toNat_zero, List.nil_append, Nat.mul_one, decide_eq_true, decide_eq_false, Int.reduceLE, Int.reduceLT, Int.reduceNeg, Bool.false_or, Bool.true_or, Bool.or_false, Bool.or_true, wrapU, Int.reduceAdd, Int.reduceSub, Int.reduceMul, ev_len, h1, h2, hne, this]
theorem _root_.Go.Am.Own.si {m0 m : Mem X} {xs : List Int} {v : AV} (h : Own m0 m 1 xs.length (iC xs) v) : SI m true xs v ∧ Fr m0.length v := Own.sl h (by rw [iC_len]; omega)
theorem _root_.Go.Am.Own.val1 {m0 m : Mem X} {xs : List Int} {v : AV} (h : Own m0 m 1 xs.length (iC xs) v) : v.one = true := by
  rcases h with ⟨_, _, rfl⟩ | ⟨q, rfl, _⟩ <;> rfl
theorem _root_.Go.Am.Own.keep {m0 m m' : Mem X} {n : Nat} {l : List AV} {lv : AV} (h : Own m0 m 1 n l lv) (hk : ∀ q C, m0.length ≤ q → m[q]? = some (.cells 1 false C) → m'[q]? = some (.cells 1 false C)) : Own m0 m' 1 n l lv := by
  rcases h with h | ⟨q, h1, h2, h3, h4⟩
  · exact .inl h
  · have := hk q _ h3 h2
    exact .inr ⟨q, h1, this, h3, (List.getElem?_eq_some_iff.1 this).1⟩
def Nx (m : Mem X) (v : AV) : Prop := v = .nils ∨ ∃ q o n l, v = .sl q o n none ∧ m[q]? = some (.cells 1 false l)
theorem _root_.Go.Am.Own.nx {m0 m : Mem X} {n : Nat} {l : List AV} {v : AV} (h : Own m0 m 1 n l v) : Nx m v := by
  rcases h with ⟨_, _, rfl⟩ | ⟨q, rfl, h1, _⟩
  · exact .inl rfl
  · exact .inr ⟨_, _, _, _, rfl, h1⟩
theorem _root_.Go.Am.Own.base {m0 m1 m : Mem X} {n : Nat} {l : List AV} {v : AV} (h : Own m1 m 1 n l v) (hl : m0.length ≤ m1.length) : Own m0 m 1 n l v := by
  rcases h with h | ⟨q, h1, h2, h3, h4⟩
  · exact .inl h
  · exact .inr ⟨q, h1, h2, by omega, h4⟩
end Go.Am.F10
end
section
namespace Go.Am.F10
open Go.Am.F06
def ringN (c : Cf) (w : Int) : Nat := if sz w ≤ c.q then (sz w).toNat else 0
def ringAt (c : Cf) (p : Int) (xs : List Int) (w : Int) (i : Nat) : Int := IntKind.i64.wrap (xs.getD (slotA c p ((hd w + i) % 4294967296)).toNat 0)
def ringW (c : Cf) (p : Int) (xs : List Int) (w : Int) (n : Nat) : List Int := (List.range n).map (ringAt c p xs w)
def ringL (c : Cf) (p : Int) (xs : List Int) : List Int := if thereP c p then ringW c p xs (xs.getD (wrdN c p) 0) (ringN c (xs.getD (wrdN c p) 0)) else []
theorem ringW_len (c : Cf) (p : Int) (xs : List Int) (w : Int) (n : Nat) : (ringW c p xs w n).length = n := by simp [ringW]
theorem ringN_le {c : Cf} {p : Int} (h : thereP c p) (w : Int) : ringN c w ≤ 64 := by
  have := there_bounds h
  unfold ringN; split <;> omega
def RnI (m M0 : MM) (c : Cf) (p : Int) (j : Nat) (xs : List Int) (w : Int) (l : AV) (k : Nat) (e : List AV) (mm : MM) : Prop := ∃ (i : Nat) (r y11 y12 y13 y14 : AV),
  e = [.agg (cfC c), .ptr j 0, .int .i64 p, .ptr m.length 0, .nils, r, l, .int .u64 w, .int .u32 (hd w), .int .u32 (tl w), .int .u32 i, y11, y12, y13, y14] ∧ k = ringN c w - i ∧ i ≤ ringN c w ∧ Keep M0 mm ∧ Own M0 mm 1 (ringW c p xs w i).length (iC (ringW c p xs w i)) r
end Go.Am.F10
end
section
namespace Go.Am.F10
open Go.Am.F06
def stC (c : Cf) (p : Int) : Cf := if thereP c p then c else zeroC
abbrev GT := GS × List Int × Int
def nextT (c : Cf) (p : Int) (t : GT) : GT := ((stepG c p t.2.1 t.1).1, (stepG c p t.2.1 t.1).2, opsG t.1 t.2.2)
inductive Ends (c : Cf) (p : Int) : GT → Nat → GT → Prop
  | done {t : GT} (h : t.1.a = 0) : Ends c p t 0 t
  | step {t f : GT} {k : Nat} (h : t.1.a ≠ 0) (hn : Ends c p (nextT c p t) k f) : Ends c p t (k + 1) f
def dW (w : Int) (i : Nat) : Int := pk ((hd w + i) % 4294967296) (tl w)
def dX (c : Cf) (p : Int) (xs : List Int) (i : Nat) : List Int := if i = 0 then xs else xs.set (wrdN c p) (dW (xs.getD (wrdN c p) 0) i)
theorem hd_pk {h t : Int} (h0 : 0 ≤ t) (h1 : t < 4294967296) : hd (pk h t) = h := by unfold hd pk; omega
theorem tl_pk {h t : Int} (h0 : 0 ≤ t) (h1 : t < 4294967296) : tl (pk h t) = t := by unfold tl pk; omega
theorem hd_dW (w : Int) (i : Nat) : hd (dW w i) = (hd w + i) % 4294967296 := hd_pk (tl_b w).1 (tl_b w).2
theorem tl_dW (w : Int) (i : Nat) : tl (dW w i) = tl w := tl_pk (tl_b w).1 (tl_b w).2
theorem dW_zero {w : Int} (h : W64 w) : dW w 0 = w := by
  have := hd_b h
  unfold dW; rw [show (hd w + ((0 : Nat) : Int)) % 4294967296 = hd w by omega]
  unfold pk hd tl; omega
theorem dW_gain (w : Int) (i : Nat) : gainW (dW w i) = dW w (i + 1) := by
  unfold gainW; rw [hd_dW, tl_dW]; unfold dW
  congr 1; omega
theorem dW_sz {w : Int} {i : Nat} (h : (i : Int) ≤ sz w) : sz (dW w i) = sz w - i := by
  unfold sz; rw [hd_dW, tl_dW]; unfold sz at h; omega
theorem dW_64 (w : Int) (i : Nat) : W64 (dW w i) := by
  have := tl_b w
  unfold dW pk W64; omega
theorem dX_word {c : Cf} {p : Int} {xs : List Int} (hx : OkL c xs) (h : thereP c p) (i : Nat) : (dX c p xs i).getD (wrdN c p) 0 = dW (xs.getD (wrdN c p) 0) i := by
  have hb := there_bounds h
  have ha := addr_b h (i := 0) (by omega) (by omega)
  have hl := hx.1
  unfold dX; split
  · rename_i h0; subst h0
    exact (dW_zero (getD_64 hx.2 _)).symm
  · rw [List.getD_eq_getElem?_getD, List.getElem?_set_self (by unfold wrdN; omega)]; rfl
theorem dX_slot {c : Cf} {p : Int} {xs : List Int} (h : thereP c p) (i : Nat) {k : Int} (hk : 0 ≤ k) : (dX c p xs i).getD (slotA c p k).toNat 0 = xs.getD (slotA c p k).toNat 0 := by
  have hb := there_bounds h
  have h0 := Int.emod_nonneg k (b := c.q) (by omega)
  have hm := mul_bounds hb.2.2.2.2.1 hb.2.2.2.2.2 (q := 6 + c.q) (by omega) (by omega)
  unfold dX; split
  · rfl
  · rw [List.getD_eq_getElem?_getD, List.getElem?_set_ne, ← List.getD_eq_getElem?_getD]
    unfold wrdN slotA; rw [if_pos h.1]; unfold addrA; rw [if_pos h, if_pos h]; omega
theorem dX_next {c : Cf} {p : Int} {xs : List Int} (i : Nat) : (dX c p xs i).set (wrdN c p) (dW (xs.getD (wrdN c p) 0) (i + 1)) = dX c p xs (i + 1) := by
  rw [dX, dX, if_neg (Nat.succ_ne_zero i)]
  split
  · rfl
  · rw [List.set_set]
end Go.Am.F10
end
section
namespace Go.Am.F10
open Go.Am.F06
theorem Ends.next {c : Cf} {p : Int} {t f : GT} {k : Nat} (h : Ends c p t k f) :
    ((stepG c p t.2.1 t.1).1.a = 0 → ((stepG c p t.2.1 t.1).1, (stepG c p t.2.1 t.1).2, opsG t.1 t.2.2) = f) ∧
    ((stepG c p t.2.1 t.1).1.a ≠ 0 → ∃ k2, k2 < k ∧ Ends c p ((stepG c p t.2.1 t.1).1, (stepG c p t.2.1 t.1).2, opsG t.1 t.2.2) k2 f) := by
  cases h with
  | done h0 =>
    rw [stepG_zero h0]
    refine ⟨fun _ => ?_, fun hh => absurd h0 hh⟩
    show (t.1, t.2.1, opsG t.1 t.2.2) = t
    unfold opsG; rw [if_pos h0]
  | @step _ _ k hne hn =>
    refine ⟨fun h0 => ?_, fun _ => ⟨k, by omega, hn⟩⟩
    cases hn with
    | done _ => rfl
    | step h1 _ => exact absurd h0 h1
theorem ringL_there {c : Cf} {p : Int} {xs : List Int} (h : thereP c p) : ringL c p xs = ringW c p xs (xs.getD (wrdN c p) 0) (ringN c (xs.getD (wrdN c p) 0)) := if_pos h
theorem ringL_not {c : Cf} {p : Int} {xs : List Int} (h : ¬ thereP c p) : ringL c p xs = [] := if_neg h
theorem ringL_le (c : Cf) (p : Int) (xs : List Int) : (ringL c p xs).length ≤ 64 := by
  by_cases h : thereP c p
  · rw [ringL_there h, ringW_len]; exact ringN_le h _
  · rw [ringL_not h]; simp
theorem ringW_get (c : Cf) (p : Int) (xs : List Int) (w : Int) {i n : Nat} (h : i < n) : (ringW c p xs w n)[i]? = some (ringAt c p xs w i) := by
  rw [ringW, List.getElem?_map, List.getElem?_range h]; rfl
end Go.Am.F10
end
section
namespace Go.Am.F10
open Go.Am.F06
section
variable {X : Type}
theorem own_push2 {m0 m : Mem X} {xs : List Int} {v : AV} (h : Own m0 m 1 xs.length (iC xs) v) (x : Int) (hl : xs.length ≤ 100000) (hm : m0.length ≤ m.length) :
    ∃ v' m', appendA 1 8 v (.sl m.length 0 1 (some 1)) (m ++ [.cells 1 false [.int .i64 x]]) = some (v', m') ∧ Own m0 m' 1 (xs ++ [x]).length (iC (xs ++ [x])) v' ∧ m.length ≤ m'.length ∧ (∀ i, i < m.length → (∀ ys, m[i]? ≠ some (.cells 1 false (iC ys))) ∨ i < m0.length → m'[i]? = m[i]?) := by
  have hx : (m ++ [Chunk.cells 1 false [.int .i64 x]])[m.length]? = some (.cells 1 false [.int .i64 x]) := get_concat
  rw [iC_app, List.length_append]
  rcases h with ⟨h1, h2, rfl⟩ | ⟨q, rfl, hq, h2, h3⟩
  · have hxs : xs = [] := List.length_eq_zero_iff.1 h1
    subst hxs
    refine ⟨_, _, append_nils hx rfl rfl (by decide), .inr ⟨_, rfl, get_concat, by simp <;> omega, by simp⟩, by simp <;> omega, fun i hi _ => ?_⟩
    rw [List.getElem?_append_left (by simp <;> omega), List.getElem?_append_left hi]
  · have hq' : (m ++ [Chunk.cells 1 false [.int .i64 x]])[q]? = some (.cells 1 false (iC xs)) := by rw [List.getElem?_append_left h3]; exact hq
    refine ⟨_, _, append_none hq' (by rw [iC_len]; omega) hx rfl (iC_one _) rfl (by omega) (by omega), .inr ⟨_, rfl, ?_, by simp <;> omega, by simp⟩, by simp <;> omega, fun i hi ho => ?_⟩
    · have : (m ++ [Chunk.cells 1 false [AV.int .i64 x]]).length = ((m ++ [Chunk.cells 1 false [AV.int .i64 x]]).set q .dead).length := by simp
      rw [this, get_concat]
    · have hqi : q ≠ i := by
        rintro rfl
        rcases ho with ho | ho
        · exact ho _ hq
        · omega
      rw [List.getElem?_append_left (by simp <;> omega), List.getElem?_set_ne hqi, List.getElem?_append_left hi]
end
end Go.Am.F10
end
section
namespace Go.Am.F10
open Go.Am.F06
theorem _root_.Go.Am.F06.KeepB.x {X : Type} {j : Nat} {m m' : Mem X} (h : KeepB j m m') : KeepX j j m m' := ⟨h.1, fun a ha h1 _ => h.2 a ha h1⟩
end Go.Am.F10
end
section
namespace Go.Am.F10
open Go.Am.F06
theorem ringN_pos {c : Cf} {w : Int} (h : 0 < ringN c w) : sz w ≤ c.q ∧ (ringN c w : Int) = sz w := by
  have hs : 0 ≤ sz w := by unfold sz; omega
  unfold ringN at h ⊢
  split at h
  · rename_i hh; rw [if_pos hh]; exact ⟨hh, by omega⟩
  · omega
theorem dW_inj {w : Int} {d e : Nat} (hd : d ≤ 100) (he : e ≤ 100) (h : dW w d = dW w e) : d = e := by
  have h1 := hd_dW w d
  have h2 := hd_dW w e
  rw [h, h2] at h1
  omega
structure OI (c : Cf) (p : Int) (xs : List Int) (i d g : Nat) (s : GS) : Prop where
  dl : d ≤ (ringL c p xs).length
  gl : g ≤ d
  t0 : 0 ≤ s.tries
  t1 : s.tries ≤ g
  st : s.a = 0 ∨ ((s.a = 1 ∨ (s.a = 2 ∨ s.a = 3) ∧ ∃ e, e ≤ d ∧ e < (ringL c p xs).length ∧ s.w = dW (xs.getD (wrdN c p) 0) e ∧ (s.a = 3 → s.seen = (ringL c p xs).getD e 0) ∧ s.tries + (if e < d then 1 else 0) ≤ g) ∧ (i : Int) = 3 * s.tries + s.a - 1)
theorem OI.lt {c : Cf} {p : Int} {xs : List Int} {i d g : Nat} {s : GS} (h : OI c p xs i d g s) (ha : s.a ≠ 0) : i < 200 := by
  have hle := ringL_le c p xs
  obtain ⟨h1, h2, h3, h4, h5⟩ := h
  rcases h5 with h5 | ⟨h5, h6⟩
  · exact absurd h5 ha
  · have : s.a ≤ 3 := by
      rcases h5 with h5 | ⟨h5, _⟩ <;> omega
    omega
theorem OI.step {c : Cf} {p : Int} {xs : List Int} {i d g : Nat} {s : GS} (h : OI c p xs i d g s) (hx : OkL c xs) (hp : thereP c p) (ha : s.a ≠ 0) :
    ((stepG c p (dX c p xs d) s).1.a ≠ 0 ∧ (stepG c p (dX c p xs d) s).2 = dX c p xs d ∧ OI c p xs (i + 1) d g (stepG c p (dX c p xs d) s).1) ∨
    ((stepG c p (dX c p xs d) s).1.a = 0 ∧ (stepG c p (dX c p xs d) s).1.has = s.has ∧ (stepG c p (dX c p xs d) s).2 = dX c p xs d ∧ d = (ringL c p xs).length ∧ OI c p xs (i + 1) d g (stepG c p (dX c p xs d) s).1) ∨
    ((stepG c p (dX c p xs d) s).1.a = 0 ∧ (stepG c p (dX c p xs d) s).1.has = true ∧ d < (ringL c p xs).length ∧ (stepG c p (dX c p xs d) s).1.seen = (ringL c p xs).getD d 0 ∧ (stepG c p (dX c p xs d) s).2 = dX c p xs (d + 1) ∧ OI c p xs (i + 1) (d + 1) g (stepG c p (dX c p xs d) s).1) := by
  have hle := ringL_le c p xs
  have hw := dX_word hx hp d
  have hw64 := getD_64 hx.2 (wrdN c p)
  have hlen : (ringL c p xs).length = ringN c (xs.getD (wrdN c p) 0) := by rw [ringL_there hp, ringW_len]
  have hget : ∀ e, e < (ringL c p xs).length → (ringL c p xs).getD e 0 = ringAt c p xs (xs.getD (wrdN c p) 0) e := by
    intro e he
    rw [List.getD_eq_getElem?_getD, ringL_there hp, ringW_get _ _ _ _ (by omega)]; rfl
  have hnx := dX_next (c := c) (p := p) (xs := xs) d
  obtain ⟨h1, h2, h3, h4, h5⟩ := h
  obtain ⟨a, w, seen, has, tries⟩ := s
  simp only at ha h3 h4 h5
  generalize hw0 : xs.getD (wrdN c p) 0 = w0 at hw hw64 hlen hget h5 hnx
  rcases h5 with h5 | ⟨h5 | ⟨h5 | h5, e, e1, e2, e3, e4, e5⟩, h6⟩
  · exact absurd h5 ha
  · subst h5
    have hs : stepG c p (dX c p xs d) ⟨1, w, seen, has, tries⟩ = (⟨if sz (dW w0 d) = 0 ∨ c.q < sz (dW w0 d) then 0 else 2, dW w0 d, seen, has, tries⟩, dX c p xs d) := by
      simp only [stepG, hw, if_true]
    rw [hs]
    by_cases hz : sz (dW w0 d) = 0 ∨ c.q < sz (dW w0 d)
    · rw [if_pos hz]
      refine .inr (.inl ⟨rfl, rfl, rfl, ?_, h1, h2, h3, h4, .inl rfl⟩)
      rcases Nat.eq_zero_or_pos (ringN c w0) with h0 | h0
      · omega
      · obtain ⟨q1, q2⟩ := ringN_pos h0
        have := dW_sz (w := w0) (i := d) (by omega)
        omega
    · rw [if_neg hz]
      refine .inl ⟨by simp, rfl, h1, h2, h3, h4, .inr ⟨.inr ⟨.inl rfl, d, Nat.le_refl _, ?_, by rw [hw0], fun hh => by simp at hh, by rw [if_neg (Nat.lt_irrefl _)]; simp only; omega⟩, by simp only; omega⟩⟩
      by_cases hq : sz w0 ≤ c.q
      · have h0 : ringN c w0 = (sz w0).toNat := if_pos hq
        have hs0 : 0 ≤ sz w0 := by unfold sz; omega
        have := dW_sz (w := w0) (i := d) (by omega)
        omega
      · have h0 : ringN c w0 = 0 := if_neg hq
        have hd0 : d = 0 := by omega
        subst hd0
        rw [dW_zero hw64] at hz
        omega
  · subst h5
    have hhd : 0 ≤ hd (dW w0 e) := by rw [hd_dW]; omega
    have hsl := dX_slot (xs := xs) hp d hhd
    rw [hd_dW] at hsl
    have hs : stepG c p (dX c p xs d) ⟨2, w, seen, has, tries⟩ = (⟨3, w, ringAt c p xs w0 e, has, tries⟩, dX c p xs d) := by
      simp only [stepG, if_neg (show ¬ ((2 : Int) = 1) by decide), if_true, e3, sltN, hd_dW, hsl, ringAt]
    rw [hs]
    refine .inl ⟨by simp, rfl, h1, h2, h3, h4, .inr ⟨.inr ⟨.inr rfl, e, e1, e2, by rw [hw0]; exact e3, fun _ => (hget e e2).symm, e5⟩, by simp only; omega⟩⟩
  · subst h5
    try simp only at e3 e4
    by_cases heq : dW w0 d = w
    · have hde : d = e := dW_inj (w := w0) (by omega) (by omega) (by rw [heq, e3])
      have hs : stepG c p (dX c p xs d) ⟨3, w, seen, has, tries⟩ = (⟨0, w, seen, true, tries⟩, dX c p xs (d + 1)) := by
        rw [hde] at hw hnx
        simp only [stepG, if_neg (show ¬ ((3 : Int) = 1) by decide), if_neg (show ¬ ((3 : Int) = 2) by decide), if_true, hde, hw, e3, dW_gain, hnx]
      rw [hs]
      refine .inr (.inr ⟨rfl, rfl, by omega, ?_, rfl, by omega, by omega, h3, h4, .inl rfl⟩)
      rw [hde]; exact e4 trivial
    · have hs : stepG c p (dX c p xs d) ⟨3, w, seen, has, tries⟩ = (⟨1, w, seen, has, tries + 1⟩, dX c p xs d) := by
        have ew : IntKind.i64.wrap (tries + 1) = tries + 1 := wrapI (by omega) (by omega)
        simp only [stepG, if_neg (show ¬ ((3 : Int) = 1) by decide), if_neg (show ¬ ((3 : Int) = 2) by decide), if_true, hw, if_neg heq, ew]
      have hne : e < d := by
        rcases Nat.lt_or_ge e d with h | h
        · exact h
        · exact absurd (by rw [e3]; congr 1; omega) heq
      rw [if_pos hne] at e5
      rw [hs]
      exact .inl ⟨by simp, rfl, h1, h2, by simp only; omega, by simp only at e5 ⊢; omega, .inr ⟨.inl rfl, by simp only; omega⟩⟩
end Go.Am.F10
end
section
namespace Go.Am.F10
open Go.Am.F06
section
variable {X : Type}
def q3 (k : Int) : Int := if k = 0 then 2 else if k = 1 then 4 else 8
def dropA (v : AV) (k : Nat) : AV := match v with | .sl q o n none => .sl q (o + k) (n - k) none | v => v
theorem _root_.Go.Am.F10.Nx.put {m : Mem X} {v : AV} (h : Nx m v) {b : Nat} (hb : ∀ ro L, m[b]? ≠ some (.cells 1 ro L)) (C : Chunk X) : Nx (m.set b C) v := by
  rcases h with h | ⟨q, o, n, l, h1, h2⟩
  · exact .inl h
  · refine .inr ⟨q, o, n, l, h1, ?_⟩
    rw [List.getElem?_set_ne (fun hq => hb _ _ (by rw [hq]; exact h2))]; exact h2
theorem _root_.Go.Am.F10.Nx.keep {m m' : Mem X} {v : AV} (h : Nx m v) (k : Keep m m') : Nx m' v := by
  rcases h with h | ⟨q, o, n, l, h1, h2⟩
  · exact .inl h
  · exact .inr ⟨q, o, n, l, h1, k.get h2⟩
theorem si_drop {m : Mem X} {wr : Bool} {xs : List Int} {v : AV} (h : SI m wr xs v) (hn : Nx m v) {k : Nat} (hk : k ≤ xs.length) : sliceA m 1 v (some k) none none = some (dropA v k) ∧ SI m wr (xs.drop k) (dropA v k) := by
  rcases hn with rfl | ⟨q, o, n, l, rfl, hq⟩
  · have h0 : xs.length = 0 := by
      rcases h.2 with ⟨_, h⟩ | ⟨_, _, _, h, _⟩
      · exact h
      · cases h
    have hx : xs = [] := List.length_eq_zero_iff.1 h0
    subst hx
    have : k = 0 := by simpa using hk
    subst this
    exact ⟨rfl, Sl.nil⟩
  · have hnl : n = xs.length := by have := h.len; simp only [lenA, Option.some.injEq] at this; exact this
    subst hnl
    refine ⟨?_, ?_, .inr ⟨q, o + k, none, by rw [List.length_drop]; rfl, fun h0 => ?_⟩⟩
    · simp only [sliceA, getC_gcO, hq, gcO_cells, Option.getD_none, Option.getD_some]
      rw [if_pos ⟨trivial, by omega, by omega⟩, Nat.mul_one]; rfl
    · rw [iC_len]; omega
    · rw [List.length_drop] at h0 ⊢
      obtain ⟨q', o', cap', ro, L, hv, h2, h3, h4, h5⟩ := h.at (by omega)
      injection hv with v1 v2 v3 v4; subst v1; subst v2; subst v4
      refine ⟨ro, L, h2, ?_, by omega, h5⟩
      rw [iC, List.map_drop, ← iC, ← h3, List.drop_take, List.drop_drop]
      congr 1; omega
theorem si_row {m : Mem X} {wr : Bool} {xs : List Int} {v : AV} (h : SI m wr xs v) : rowOf m 1 v = some (iC xs) := by
  rcases h.2 with ⟨rfl, h0⟩ | ⟨q, o, cap, rfl, h2⟩
  · have hx : xs = [] := List.length_eq_zero_iff.1 h0
    subst hx; rfl
  · by_cases h0 : xs.length = 0
    · have hx : xs = [] := List.length_eq_zero_iff.1 h0
      subst hx; rfl
    · obtain ⟨ro, L, h3, h4, h5, _⟩ := h2 (by omega)
      simp only [rowOf, Am.getC, h3]
      rw [if_neg h0, if_pos h5, h4]
theorem own_pushs {m0 m : Mem X} {wr : Bool} {xs ys : List Int} {v y : AV} (h : Own m0 m 1 xs.length (iC xs) v) (hy : SI m wr ys y) (hl : xs.length ≤ 100000) (hl2 : ys.length ≤ 100000) (hm : m0.length ≤ m.length) :
    ∃ v' m', appendA 1 8 v y m = some (v', m') ∧ Own m0 m' 1 (xs ++ ys).length (iC (xs ++ ys)) v' ∧ m.length ≤ m'.length ∧ (∀ i, i < m.length → (∀ ys, m[i]? ≠ some (.cells 1 false (iC ys))) ∨ i < m0.length → m'[i]? = m[i]?) := by
  have hr := si_row hy
  have hlen := hy.len
  by_cases h0 : ys.length = 0
  · have hx : ys = [] := List.length_eq_zero_iff.1 h0
    subst hx
    rw [List.append_nil]
    rcases h with ⟨h1, h2, rfl⟩ | ⟨q, rfl, hq, h2, h3⟩
    · exact ⟨.nils, m, by simp only [appendA, hlen, hr, List.length_nil, if_true], .inl ⟨h1, h2, rfl⟩, Nat.le_refl _, fun i _ _ => rfl⟩
    · exact ⟨_, m, by simp only [appendA, hlen, hr, List.length_nil, if_true], .inr ⟨q, rfl, hq, h2, h3⟩, Nat.le_refl _, fun i _ _ => rfl⟩
  rcases h with ⟨h1, h2, rfl⟩ | ⟨q, rfl, hq, h2, h3⟩
  · have hxs : xs = [] := List.length_eq_zero_iff.1 h1
    subst hxs
    refine ⟨.sl m.length 0 ys.length none, m ++ [.cells 1 false (iC ys)], ?_, .inr ⟨_, by rw [List.nil_append], by rw [List.nil_append]; exact get_concat, hm, by simp⟩, by simp, fun i hi _ => List.getElem?_append_left hi⟩
    simp only [appendA, hlen, hr]
    rw [if_neg h0, if_pos ⟨by omega, by omega, iC_one _⟩]
  · refine ⟨.sl m.length 0 (xs.length + ys.length) none, m.set q .dead ++ [.cells 1 false (iC xs ++ iC ys)], ?_, .inr ⟨_, by rw [List.length_append], ?_, hm, by simp⟩, by simp, fun i hi ho => ?_⟩
    · simp only [appendA, hlen, hr, Am.getC, hq]
      rw [if_neg h0, if_pos]
      · rw [List.drop_zero, Nat.mul_one, List.take_of_length_le (by rw [iC_len]; omega)]
      · refine ⟨trivial, by rw [iC_len]; omega, by omega, by omega, ?_⟩
        rw [List.drop_zero, Nat.mul_one, List.take_of_length_le (by rw [iC_len]; omega), List.all_append, iC_one, iC_one]; rfl
    · rw [show m.length = (m.set q .dead).length by simp, get_concat]; simp [iC]
    · have hqi : q ≠ i := by
        rintro rfl
        rcases ho with ho | ho
        · exact ho _ hq
        · omega
      rw [List.getElem?_append_left (by simpa using hi), List.getElem?_set_ne hqi]
end
end Go.Am.F10
end
section
namespace Go.Am.F10
open Go.Am.F06
end Go.Am.F10
end
section
namespace Go.Am.F10
open Go.Am.F06
end Go.Am.F10
end
section
namespace Go.Am.F10
open Go.Am.F06
end Go.Am.F10
end
section
namespace Go.Am.F10
open Go.Am.F06
def Rw (m : MM) (q n sz : Nat) (l : List AV) (v : AV) : Prop := (n = 0 ∧ l = [] ∧ v = .nils) ∨ (0 < n ∧ v = .sl q 0 n none ∧ m[q]? = some (.cells sz false l))
theorem Rw.nil {m : MM} {q sz : Nat} : Rw m q 0 sz [] .nils := .inl ⟨rfl, rfl, rfl⟩
theorem Rw.sl {m : MM} {q n sz : Nat} {l : List AV} {v : AV} (h : Rw m q n sz l v) (hl : l.length = n * sz) : Sl m false sz n l v := by
  rcases h with ⟨rfl, rfl, rfl⟩ | ⟨_, rfl, h⟩
  · exact Sl.nil
  · exact ⟨hl, .inr ⟨q, 0, none, rfl, fun _ => ⟨false, l, h, by rw [List.drop_zero, ← hl, List.take_length], by omega, fun h => by cases h⟩⟩⟩
theorem Rw.lt {m : MM} {q n sz : Nat} {l : List AV} {v : AV} (h : Rw m q n sz l v) (hn : 0 < n) : q < m.length := by
  rcases h with ⟨rfl, _⟩ | ⟨_, _, h⟩
  · omega
  · exact (List.getElem?_eq_some_iff.1 h).1
theorem Rw.keep {m m' : MM} {q n sz : Nat} {l : List AV} {v : AV} (h : Rw m q n sz l v) (hq : 0 < n → m'[q]? = m[q]?) : Rw m' q n sz l v := by
  rcases h with h | ⟨h1, h2, h3⟩
  · exact .inl h
  · exact .inr ⟨h1, h2, by rw [hq h1]; exact h3⟩
theorem Rw.one {m : MM} {q n sz : Nat} {l : List AV} {v : AV} (h : Rw m q n sz l v) : v.one = true := by
  rcases h with ⟨_, _, rfl⟩ | ⟨_, rfl, _⟩ <;> rfl
end Go.Am.F10
end
section
namespace Go.Am.F09
variable {X : Type}
def c_conf_within : AFun X := amFunc [] conf_within
def c_conf_Config_Right : AFun X := amFunc [(176, c_conf_within)] conf_Config_Right
def c_conf_Config_Cells : AFun X := amFunc [(157, c_conf_Config_Right)] conf_Config_Cells
def c_cell_New : AFun X := amFunc [] cell_New
def c_conf_own_at : AFun X := amFunc [(157, c_conf_Config_Right), (176, c_conf_within)] conf_own_at
def c_conf_Config_Slot : AFun X := amFunc [(157, c_conf_Config_Right), (177, c_conf_own_at)] conf_Config_Slot
def c_cell_Mem_there : AFun X := amFunc [] cell_Mem_there
def c_cell_counts_note : AFun X := amFunc [] cell_counts_note
def c_cell_Mem_Store_1 : AFun X := amFunc [] cell_Mem_Store_1
def c_cell_Mem_CAS_1 : AFun X := amFunc [] cell_Mem_CAS_1
def c_cell_Mem_Load_1 : AFun X := amFunc [] cell_Mem_Load_1
def c_put_NewLay_1 : AFun X := amFunc [] put_NewLay_1
def c_cell_Mem_access : AFun X := amFunc [(56, c_cell_Mem_there), (71, c_cell_counts_note), (49, c_cell_Mem_Store_1), (51, c_cell_Mem_CAS_1), (52, c_cell_Mem_Load_1), (213, c_put_NewLay_1)] cell_Mem_access
def c_cell_Mem_Store : AFun X := amFunc [(50, c_cell_Mem_access), (49, c_cell_Mem_Store_1)] cell_Mem_Store
def c_conf_Config_Word : AFun X := amFunc [(177, c_conf_own_at)] conf_Config_Word
def c_law09_ring : AFun X := amFunc [(156, c_conf_Config_Cells), (21, c_cell_New), (160, c_conf_Config_Slot), (22, c_cell_Mem_Store), (159, c_conf_Config_Word)] law09_ring
def c_put_from : AFun X := amFunc [(159, c_conf_Config_Word)] put_from
def c_put_New : AFun X := amFunc [(206, c_put_from)] put_New
def c_put_Put_Done : AFun X := amFunc [] put_Put_Done
def c_cell_Mem_Load : AFun X := amFunc [(50, c_cell_Mem_access), (52, c_cell_Mem_Load_1)] cell_Mem_Load
def c_word_Tail : AFun X := amFunc [] word_Tail
def c_word_Head : AFun X := amFunc [] word_Head
def c_word_Len : AFun X := amFunc [(182, c_word_Tail), (179, c_word_Head)] word_Len
def c_put_ring_load : AFun X := amFunc [(159, c_conf_Config_Word), (24, c_cell_Mem_Load), (178, c_word_Len)] put_ring_load
def c_put_Put_look : AFun X := amFunc [(219, c_put_ring_load)] put_Put_look
def c_put_ring_slot : AFun X := amFunc [(182, c_word_Tail), (160, c_conf_Config_Slot)] put_ring_slot
def c_put_Put_lay : AFun X := amFunc [(210, c_put_ring_slot), (22, c_cell_Mem_Store)] put_Put_lay
def c_word_Pack : AFun X := amFunc [] word_Pack
def c_word_Grow : AFun X := amFunc [(179, c_word_Head), (182, c_word_Tail), (183, c_word_Pack)] word_Grow
def c_cell_Mem_CAS : AFun X := amFunc [(50, c_cell_Mem_access), (51, c_cell_Mem_CAS_1)] cell_Mem_CAS
def c_put_ring_change : AFun X := amFunc [(159, c_conf_Config_Word), (23, c_cell_Mem_CAS)] put_ring_change
def c_put_Put_swing : AFun X := amFunc [(211, c_word_Grow), (212, c_put_ring_change)] put_Put_swing
def c_put_Put_half : AFun X := amFunc [] put_Put_half
def c_put_Put_take : AFun X := amFunc [(220, c_put_Put_half), (210, c_put_ring_slot), (24, c_cell_Mem_Load)] put_Put_take
def c_word_Drop : AFun X := amFunc [(179, c_word_Head), (182, c_word_Tail), (183, c_word_Pack)] word_Drop
def c_put_Put_cut : AFun X := amFunc [(220, c_put_Put_half), (221, c_word_Drop), (212, c_put_ring_change)] put_Put_cut
def c_put_ways : AFun X := amFunc [(214, c_put_Put_look), (215, c_put_Put_lay), (216, c_put_Put_swing), (217, c_put_Put_take), (218, c_put_Put_cut)] put_ways
def c_put_Put_Step : AFun X := amFunc [(191, c_put_Put_Done), (207, c_put_ways), (49, c_cell_Mem_Store_1), (51, c_cell_Mem_CAS_1), (52, c_cell_Mem_Load_1), (213, c_put_NewLay_1), (214, c_put_Put_look), (215, c_put_Put_lay), (216, c_put_Put_swing), (217, c_put_Put_take), (218, c_put_Put_cut)] put_Put_Step
def c_slices_Clone_int : AFun X := amFunc [] slices_Clone_int
def c_put_Put_Over : AFun X := amFunc [(208, c_slices_Clone_int)] put_Put_Over
def c_kit_SameInts : AFun X := amFunc [] kit_SameInts
def c_slices_Clone_uint64 : AFun X := amFunc [] slices_Clone_uint64
def c_cell_Mem_All : AFun X := amFunc [(61, c_slices_Clone_uint64)] cell_Mem_All
def c_docs_Ring : AFun X := amFunc [(47, c_cell_Mem_All), (156, c_conf_Config_Cells), (159, c_conf_Config_Word), (160, c_conf_Config_Slot)] docs_Ring
def c_docs_Thief : AFun X := amFunc [(136, c_docs_Ring), (159, c_conf_Config_Word), (24, c_cell_Mem_Load), (22, c_cell_Mem_Store)] docs_Thief
def c_law09_works : AFun X := amFunc [(205, c_law09_ring), (185, c_put_New), (186, c_put_Put_Step), (187, c_put_Put_Over), (84, c_kit_SameInts), (136, c_docs_Ring), (139, c_docs_Thief)] law09_works
def c_kit_Pick : AFun X := amFunc [] kit_Pick
def c_docs_byteAt : AFun X := amFunc [] docs_byteAt
def c_conf_Config_Next : AFun X := amFunc [(177, c_conf_own_at)] conf_Config_Next
def c_conf_Config_Stat : AFun X := amFunc [(177, c_conf_own_at)] conf_Config_Stat
def c_conf_Config_Tick : AFun X := amFunc [(177, c_conf_own_at)] conf_Config_Tick
def c_conf_Config_Sys : AFun X := amFunc [(177, c_conf_own_at)] conf_Config_Sys
def c_conf_Config_Flag : AFun X := amFunc [(177, c_conf_own_at)] conf_Config_Flag
def c_docs_Filled : AFun X := amFunc [(156, c_conf_Config_Cells), (157, c_conf_Config_Right), (158, c_docs_byteAt), (159, c_conf_Config_Word), (160, c_conf_Config_Slot), (161, c_conf_Config_Next), (162, c_conf_Config_Stat), (163, c_conf_Config_Tick), (164, c_conf_Config_Sys), (165, c_conf_Config_Flag)] docs_Filled
def c_ref06_New : AFun X := amFunc [] ref06_New
def c_ref06_there : AFun X := amFunc [] ref06_there
def c_ref06_with : AFun X := amFunc [] ref06_with
def c_ref06_Store : AFun X := amFunc [(72, c_ref06_there), (73, c_ref06_with)] ref06_Store
def c_docs_Config : AFun X := amFunc [] docs_Config
def c_ref05_Right : AFun X := amFunc [] ref05_Right
def c_ref09_There : AFun X := amFunc [(181, c_ref05_Right)] ref09_There
def c_cell_Mem_Len : AFun X := amFunc [] cell_Mem_Len
def c_cell_Mem_Ops : AFun X := amFunc [] cell_Mem_Ops
def c_docs_SameCells : AFun X := amFunc [] docs_SameCells
def c_ref09_Tail : AFun X := amFunc [] ref09_Tail
def c_ref09_Word : AFun X := amFunc [] ref09_Word
def c_ref06_Load : AFun X := amFunc [(72, c_ref06_there)] ref06_Load
def c_ref09_Head : AFun X := amFunc [] ref09_Head
def c_ref09_Size : AFun X := amFunc [(171, c_ref09_Tail), (170, c_ref09_Head)] ref09_Size
def c_ref09_Slot : AFun X := amFunc [(172, c_ref09_Word)] ref09_Slot
def c_ref09_Pack : AFun X := amFunc [] ref09_Pack
def c_ref06_CAS : AFun X := amFunc [(72, c_ref06_there), (73, c_ref06_with)] ref06_CAS
def c_put_Lay_Done : AFun X := amFunc [] put_Lay_Done
def c_ref09_NewLay : AFun X := amFunc [(169, c_ref09_There)] ref09_NewLay
end Go.Am.F09
end
