import Derived.Test.YtgfddegdjdeeoaaXG22
set_option linter.unusedSimpArgs false
set_option linter.unusedVariables false
section
namespace Go.Am.F09
open Go.Am.F06 Go.Am.F10
set_option maxHeartbeats 16000000 in
theorem lplays_run {m0 : MM} {c : Cf} {p : Int} {ls bs : List Int} {qv bv lv : AV} {ps : List Pk} (hQ : SI m0 false ls qv) (hB : SB m0 bs bv) (hb : ∀ x, x ∈ bs → 0 ≤ x ∧ x < 256) (hl : SPk m0 false ps lv) (hv : ∀ x, x ∈ ps → W64 x.v) :
    Fn Gly law09_PutLayPlays [.agg (cfC c), .int .i64 p, qv, bv, lv] m0 (fun r m' => r = .bool true ∧ Keep m0 m') := by
  have a184 : assoc Gly 184 = some (pureF worksG) := rfl
  have a134 : assoc Gly 134 = some F10.c_docs_Filled := rfl
  have a135 : assoc Gly 135 = some (amFunc F10.Gmem F10.docs_Mem) := rfl
  have a199 : assoc Gly 199 = some (amFunc Gnl put_NewLay) := rfl
  have a147 : assoc Gly 147 = some F10.c_docs_Config := rfl
  have a201 : assoc Gly 201 = some c_ref09_NewLay := rfl
  have a196 : assoc Gly 196 = some c_put_Lay_Done := rfl
  have a68 : assoc Gly 68 = some (amFunc F10.Gsmem F10.docs_SameMem) := rfl
  have a46 : assoc Gly 46 = some (memF fun s rest => (opsAsk s rest).map fun v => (v, s)) := rfl
  have a202 : assoc Gly 202 = some (amFunc Grl2 ref09_StepLay) := rfl
  have a195 : assoc Gly 195 = some (amFunc Glst put_Lay_Step) := rfl
  have a193 : assoc Gly 193 = some (amFunc Gpk law09_poked) := rfl
  have hfe : F10.c_docs_Filled (X := Ob) = amFunc F10.Gfill F10.docs_Filled := rfl
  have hre : c_ref09_NewLay (X := Ob) = amFunc [(169, F10.c_ref09_There)] ref09_NewLay := rfl
  have hlenl := hl.len
  have hlenb := hB.len
  have hlenq := hQ.len
  rw [lplays_body]
  refine Fn_of rfl ?_
  by_cases h1 : 60 < ps.length
  · simp (disch := first | assumption | omega | (simp only [List.length_cons, List.length_nil, List.length_set, List.length_append] <;> omega) | (simp only [get_mid, get_mid0, List.cons_append, List.append_assoc, List.getElem?_cons_zero, List.getElem?_cons_succ])) only [sqN, law09_PutLayPlays, ek, ↓evW, ↓evQ, evB, evS, evL, List.map, AV.cells, List.all, AV.one, Bool.and_true, Bool.true_and, if_true, ↓thenQ_normal, ↓thenQ_exit, ↓thenQ_ret, ↓blockQ_normal, ↓blockQ_ret, ↓blockQ_exit, ↓CW_true, ↓CW_false, CW_true, CW_false, condT, condF, RQ_some, tupA_one, tupA_two, tupA_nil, Nat.reduceSub, Nat.reduceAdd, Nat.reduceMul, Nat.zero_add, Nat.add_zero, Nat.reduceLeDiff, Nat.reduceEqDiff, eqV, eqAll, fillA, and_self, and_true, true_and, Nat.le_refl, Bool.not_true, Bool.not_false, Bool.false_xor, Bool.true_xor, cond_true, cond_false, List.replicate, if_false, reduceIte, resAll, resA, ne_eq, decide_not, decide_true, decide_false, Int.reduceEq, Bool.not_true, Bool.not_false, not_true_eq_false, not_false_eq_true, cond_bool, cond_int, beq_self_eq_true, Int.reduceBEq, Bool.and_self, Bool.and_false, Bool.false_and, Bool.xor_false, Bool.xor_true, loadN_ldC, ldC_none, ldC_somes, stC_aggs, splice, storeN_stC, stC_int, stC_bool, stC_ptr, stC_nilp, stC_sl, stC_nils, getC_gcO, gcO_cells, W_draw_eq, ↓W_scope, ev_clear, evT, evF, evX, evM, ↓exitQ_normal, ↓exitQ_ret, ↓exitQ_exit, saA_self, saO_self, if_pos, if_neg, wrapI, get_concat, set_concat, Int.toNat_natCast, Int.toNat_zero, List.nil_append, Nat.mul_one, decide_eq_true, decide_eq_false, Int.reduceLE, Int.reduceLT, Int.reduceNeg, Bool.false_or, Bool.true_or, Bool.or_false, Bool.or_true, wrapU, Int.reduceAdd, Int.reduceSub, Int.reduceMul, List.append_assoc, List.length_append, get_mid, get_mid0, set_mid, set_mid0, List.length_set, List.length_cons, List.length_nil, List.cons_append, List.getElem?_append_left, List.set_append_left, get_at, get_at0, set_at, set_at0, List.getElem?_set_self, List.getElem?_set_ne, cfC, ev_len, hlenl, hlenb, hlenq, a184, pureF, worksG]
    exact .app _ _
  by_cases h2 : 40 < bs.length
  · simp (disch := first | assumption | omega | (simp only [List.length_cons, List.length_nil, List.length_set, List.length_append] <;> omega) | (simp only [get_mid, get_mid0, List.cons_append, List.append_assoc, List.getElem?_cons_zero, List.getElem?_cons_succ])) only [sqN, law09_PutLayPlays, ek, ↓evW, ↓evQ, evB, evS, evL, List.map, AV.cells, List.all, AV.one, Bool.and_true, Bool.true_and, if_true, ↓thenQ_normal, ↓thenQ_exit, ↓thenQ_ret, ↓blockQ_normal, ↓blockQ_ret, ↓blockQ_exit, ↓CW_true, ↓CW_false, CW_true, CW_false, condT, condF, RQ_some, tupA_one, tupA_two, tupA_nil, Nat.reduceSub, Nat.reduceAdd, Nat.reduceMul, Nat.zero_add, Nat.add_zero, Nat.reduceLeDiff, Nat.reduceEqDiff, eqV, eqAll, fillA, and_self, and_true, true_and, Nat.le_refl, Bool.not_true, Bool.not_false, Bool.false_xor, Bool.true_xor, cond_true, cond_false, List.replicate, if_false, reduceIte, resAll, resA, ne_eq, decide_not, decide_true, decide_false, Int.reduceEq, Bool.not_true, Bool.not_false, not_true_eq_false, not_false_eq_true, cond_bool, cond_int, beq_self_eq_true, Int.reduceBEq, Bool.and_self, Bool.and_false, Bool.false_and, Bool.xor_false, Bool.xor_true, loadN_ldC, ldC_none, ldC_somes, stC_aggs, splice, storeN_stC, stC_int, stC_bool, stC_ptr, stC_nilp, stC_sl, stC_nils, getC_gcO, gcO_cells, W_draw_eq, ↓W_scope, ev_clear, evT, evF, evX, evM, ↓exitQ_normal, ↓exitQ_ret, ↓exitQ_exit, saA_self, saO_self, if_pos, if_neg, wrapI, get_concat, set_concat, Int.toNat_natCast, Int.toNat_zero, List.nil_append, Nat.mul_one, decide_eq_true, decide_eq_false, Int.reduceLE, Int.reduceLT, Int.reduceNeg, Bool.false_or, Bool.true_or, Bool.or_false, Bool.or_true, wrapU, Int.reduceAdd, Int.reduceSub, Int.reduceMul, List.append_assoc, List.length_append, get_mid, get_mid0, set_mid, set_mid0, List.length_set, List.length_cons, List.length_nil, List.cons_append, List.getElem?_append_left, List.set_append_left, get_at, get_at0, set_at, set_at0, List.getElem?_set_self, List.getElem?_set_ne, cfC, ev_len, hlenl, hlenb, hlenq, a184, pureF, worksG]
    exact .app _ _
  by_cases h3 : 70 < ls.length
  · simp (disch := first | assumption | omega | (simp only [List.length_cons, List.length_nil, List.length_set, List.length_append] <;> omega) | (simp only [get_mid, get_mid0, List.cons_append, List.append_assoc, List.getElem?_cons_zero, List.getElem?_cons_succ])) only [sqN, law09_PutLayPlays, ek, ↓evW, ↓evQ, evB, evS, evL, List.map, AV.cells, List.all, AV.one, Bool.and_true, Bool.true_and, if_true, ↓thenQ_normal, ↓thenQ_exit, ↓thenQ_ret, ↓blockQ_normal, ↓blockQ_ret, ↓blockQ_exit, ↓CW_true, ↓CW_false, CW_true, CW_false, condT, condF, RQ_some, tupA_one, tupA_two, tupA_nil, Nat.reduceSub, Nat.reduceAdd, Nat.reduceMul, Nat.zero_add, Nat.add_zero, Nat.reduceLeDiff, Nat.reduceEqDiff, eqV, eqAll, fillA, and_self, and_true, true_and, Nat.le_refl, Bool.not_true, Bool.not_false, Bool.false_xor, Bool.true_xor, cond_true, cond_false, List.replicate, if_false, reduceIte, resAll, resA, ne_eq, decide_not, decide_true, decide_false, Int.reduceEq, Bool.not_true, Bool.not_false, not_true_eq_false, not_false_eq_true, cond_bool, cond_int, beq_self_eq_true, Int.reduceBEq, Bool.and_self, Bool.and_false, Bool.false_and, Bool.xor_false, Bool.xor_true, loadN_ldC, ldC_none, ldC_somes, stC_aggs, splice, storeN_stC, stC_int, stC_bool, stC_ptr, stC_nilp, stC_sl, stC_nils, getC_gcO, gcO_cells, W_draw_eq, ↓W_scope, ev_clear, evT, evF, evX, evM, ↓exitQ_normal, ↓exitQ_ret, ↓exitQ_exit, saA_self, saO_self, if_pos, if_neg, wrapI, get_concat, set_concat, Int.toNat_natCast, Int.toNat_zero, List.nil_append, Nat.mul_one, decide_eq_true, decide_eq_false, Int.reduceLE, Int.reduceLT, Int.reduceNeg, Bool.false_or, Bool.true_or, Bool.or_false, Bool.or_true, wrapU, Int.reduceAdd, Int.reduceSub, Int.reduceMul, List.append_assoc, List.length_append, get_mid, get_mid0, set_mid, set_mid0, List.length_set, List.length_cons, List.length_nil, List.cons_append, List.getElem?_append_left, List.set_append_left, get_at, get_at0, set_at, set_at0, List.getElem?_set_self, List.getElem?_set_ne, cfC, ev_len, hlenl, hlenb, hlenq, a184, pureF, worksG]
    exact .app _ _
  simp (disch := first | assumption | omega | (simp only [List.length_cons, List.length_nil, List.length_set, List.length_append] <;> omega) | (simp only [get_mid, get_mid0, List.cons_append, List.append_assoc, List.getElem?_cons_zero, List.getElem?_cons_succ])) only [sqN, law09_PutLayPlays, ek, ↓evW, ↓evQ, evB, evS, evL, List.map, AV.cells, List.all, AV.one, Bool.and_true, Bool.true_and, if_true, ↓thenQ_normal, ↓thenQ_exit, ↓thenQ_ret, ↓blockQ_normal, ↓blockQ_ret, ↓blockQ_exit, ↓CW_true, ↓CW_false, CW_true, CW_false, condT, condF, RQ_some, tupA_one, tupA_two, tupA_nil, Nat.reduceSub, Nat.reduceAdd, Nat.reduceMul, Nat.zero_add, Nat.add_zero, Nat.reduceLeDiff, Nat.reduceEqDiff, eqV, eqAll, fillA, and_self, and_true, true_and, Nat.le_refl, Bool.not_true, Bool.not_false, Bool.false_xor, Bool.true_xor, cond_true, cond_false, List.replicate, if_false, reduceIte, resAll, resA, ne_eq, decide_not, decide_true, decide_false, Int.reduceEq, Bool.not_true, Bool.not_false, not_true_eq_false, not_false_eq_true, cond_bool, cond_int, beq_self_eq_true, Int.reduceBEq, Bool.and_self, Bool.and_false, Bool.false_and, Bool.xor_false, Bool.xor_true, loadN_ldC, ldC_none, ldC_somes, stC_aggs, splice, storeN_stC, stC_int, stC_bool, stC_ptr, stC_nilp, stC_sl, stC_nils, getC_gcO, gcO_cells, W_draw_eq, ↓W_scope, ev_clear, evT, evF, evX, evM, ↓exitQ_normal, ↓exitQ_ret, ↓exitQ_exit, saA_self, saO_self, if_pos, if_neg, wrapI, get_concat, set_concat, Int.toNat_natCast, Int.toNat_zero, List.nil_append, Nat.mul_one, decide_eq_true, decide_eq_false, Int.reduceLE, Int.reduceLT, Int.reduceNeg, Bool.false_or, Bool.true_or, Bool.or_false, Bool.or_true, wrapU, Int.reduceAdd, Int.reduceSub, Int.reduceMul, List.append_assoc, List.length_append, get_mid, get_mid0, set_mid, set_mid0, List.length_set, List.length_cons, List.length_nil, List.cons_append, List.getElem?_append_left, List.set_append_left, get_at, get_at0, set_at, set_at0, List.getElem?_set_self, List.getElem?_set_ne, cfC, ev_len, hlenl, hlenb, hlenq, a134, hfe]
  have hB1 : SB (m0 ++ [Chunk.cells 6 false (cfC c)]) bs bv := hB.keep (Keep.app _ _)
  refine OK_fn (filled_run (c := c) hB1 hb) ?_
  rintro r1 m1 ⟨xs0, k1, s1, x1, x2⟩
  have hk1 : Keep m0 m1 := (Keep.app m0 _).trans k1
  have gb1 : m1[m0.length]? = some (Chunk.cells 6 false (cfC c)) := k1.get get_concat
  have hcn := cellsN_le c
  simp (disch := first | assumption | omega | (simp only [List.length_cons, List.length_nil, List.length_set, List.length_append] <;> omega) | (simp only [get_mid, get_mid0, List.cons_append, List.append_assoc, List.getElem?_cons_zero, List.getElem?_cons_succ])) only [ek, ↓evW, ↓evQ, evB, evS, evL, List.map, AV.cells, List.all, AV.one, Bool.and_true, Bool.true_and, if_true, ↓thenQ_normal, ↓thenQ_exit, ↓thenQ_ret, ↓blockQ_normal, ↓blockQ_ret, ↓blockQ_exit, ↓CW_true, ↓CW_false, CW_true, CW_false, condT, condF, RQ_some, tupA_one, tupA_two, tupA_nil, Nat.reduceSub, Nat.reduceAdd, Nat.reduceMul, Nat.zero_add, Nat.add_zero, Nat.reduceLeDiff, Nat.reduceEqDiff, eqV, eqAll, fillA, and_self, and_true, true_and, Nat.le_refl, Bool.not_true, Bool.not_false, Bool.false_xor, Bool.true_xor, cond_true, cond_false, List.replicate, if_false, reduceIte, resAll, resA, ne_eq, decide_not, decide_true, decide_false, Int.reduceEq, Bool.not_true, Bool.not_false, not_true_eq_false, not_false_eq_true, cond_bool, cond_int, beq_self_eq_true, Int.reduceBEq, Bool.and_self, Bool.and_false, Bool.false_and, Bool.xor_false, Bool.xor_true, loadN_ldC, ldC_none, ldC_somes, stC_aggs, splice, storeN_stC, stC_int, stC_bool, stC_ptr, stC_nilp, stC_sl, stC_nils, getC_gcO, gcO_cells, W_draw_eq, ↓W_scope, ev_clear, evT, evF, evX, evM, ↓exitQ_normal, ↓exitQ_ret, ↓exitQ_exit, saA_self, saO_self, if_pos, if_neg, wrapI, get_concat, set_concat, Int.toNat_natCast, Int.toNat_zero, List.nil_append, Nat.mul_one, decide_eq_true, decide_eq_false, Int.reduceLE, Int.reduceLT, Int.reduceNeg, Bool.false_or, Bool.true_or, Bool.or_false, Bool.or_true, wrapU, Int.reduceAdd, Int.reduceSub, Int.reduceMul, List.append_assoc, List.length_append, get_mid, get_mid0, set_mid, set_mid0, List.length_set, List.length_cons, List.length_nil, List.cons_append, List.getElem?_append_left, List.set_append_left, get_at, get_at0, set_at, set_at0, List.getElem?_set_self, List.getElem?_set_ne, a135]
  refine OK_fn (mem_run s1 (by omega)) ?_
  rintro _ m2 ⟨st, v, rfl, k2, g2, rm, s2⟩
  have gb2 := k2.get gb1
  have hk2 := hk1.trans k2
  have hone := slOne s2
  simp only [AV.one] at hone
  have lb : m0.length < m2.length := (List.getElem?_eq_some_iff.1 gb2).1
  have hj0 : m0.length ≤ m1.length + 1 := by have := hk1.1; omega
  generalize m1.length + 1 = j at g2 hj0 ⊢
  -- the list that is handed in
  obtain ⟨mA, hmA⟩ : ∃ mA : MM, mA = m2 ++ [Chunk.cells 2 false (memC v xs0.length)] := ⟨_, rfl⟩
  have k2A : Keep m2 mA := by rw [hmA]; exact .app _ _
  have grA : mA[m2.length]? = some (.cells 2 false (memC v xs0.length)) := by rw [hmA, get_mid0]; rfl
  have lA : mA.length = m2.length + 1 := by rw [hmA]; simp
  obtain ⟨ow, mB, hap, own, hlB, hsB⟩ := own_pushs (m0 := mA) (xs := []) own_nil ((hQ.keep hk2).keep k2A) (by simp) (by omega) (Nat.le_refl _)
  have kAB : Keep mA mB := ⟨hlB, fun i hi => hsB i hi (.inr hi)⟩
  rw [List.nil_append] at own
  have kB : Keep m2 mB := k2A.trans kAB
  have gbB := kB.get gb2
  have gjB := kB.get g2
  have grB := kAB.get grA
  have hOB := own.val1
  simp only [AV.one] at hOB
  simp only [memC] at hmA
  simp (disch := first | assumption | omega | (simp only [List.length_cons, List.length_nil, List.length_set, List.length_append] <;> omega) | (simp only [get_mid, get_mid0, List.cons_append, List.append_assoc, List.getElem?_cons_zero, List.getElem?_cons_succ])) only [ek, ↓evW, ↓evQ, evB, evS, evL, List.map, AV.cells, List.all, AV.one, Bool.and_true, Bool.true_and, if_true, ↓thenQ_normal, ↓thenQ_exit, ↓thenQ_ret, ↓blockQ_normal, ↓blockQ_ret, ↓blockQ_exit, ↓CW_true, ↓CW_false, CW_true, CW_false, condT, condF, RQ_some, tupA_one, tupA_two, tupA_nil, Nat.reduceSub, Nat.reduceAdd, Nat.reduceMul, Nat.zero_add, Nat.add_zero, Nat.reduceLeDiff, Nat.reduceEqDiff, eqV, eqAll, fillA, and_self, and_true, true_and, Nat.le_refl, Bool.not_true, Bool.not_false, Bool.false_xor, Bool.true_xor, cond_true, cond_false, List.replicate, if_false, reduceIte, resAll, resA, ne_eq, decide_not, decide_true, decide_false, Int.reduceEq, Bool.not_true, Bool.not_false, not_true_eq_false, not_false_eq_true, cond_bool, cond_int, beq_self_eq_true, Int.reduceBEq, Bool.and_self, Bool.and_false, Bool.false_and, Bool.xor_false, Bool.xor_true, loadN_ldC, ldC_none, ldC_somes, stC_aggs, splice, storeN_stC, stC_int, stC_bool, stC_ptr, stC_nilp, stC_sl, stC_nils, getC_gcO, gcO_cells, W_draw_eq, ↓W_scope, ev_clear, evT, evF, evX, evM, ↓exitQ_normal, ↓exitQ_ret, ↓exitQ_exit, saA_self, saO_self, if_pos, if_neg, wrapI, get_concat, set_concat, Int.toNat_natCast, Int.toNat_zero, List.nil_append, Nat.mul_one, decide_eq_true, decide_eq_false, Int.reduceLE, Int.reduceLT, Int.reduceNeg, Bool.false_or, Bool.true_or, Bool.or_false, Bool.or_true, wrapU, Int.reduceAdd, Int.reduceSub, Int.reduceMul, List.append_assoc, List.length_append, get_mid, get_mid0, set_mid, set_mid0, List.length_set, List.length_cons, List.length_nil, List.cons_append, List.getElem?_append_left, List.set_append_left, get_at, get_at0, set_at, set_at0, List.getElem?_set_self, List.getElem?_set_ne, memC, hone]
  rw [← hmA]
  simp only [cfC] at gbB
  have gbB' := fun K : MM => (Keep.app mB K).get gbB
  simp (disch := first | assumption | omega | (simp only [List.length_cons, List.length_nil, List.length_set, List.length_append] <;> omega) | (simp only [get_mid, get_mid0, List.cons_append, List.append_assoc, List.getElem?_cons_zero, List.getElem?_cons_succ])) only [ek, ↓evW, ↓evQ, evB, evS, evL, List.map, AV.cells, List.all, AV.one, Bool.and_true, Bool.true_and, if_true, ↓thenQ_normal, ↓thenQ_exit, ↓thenQ_ret, ↓blockQ_normal, ↓blockQ_ret, ↓blockQ_exit, ↓CW_true, ↓CW_false, CW_true, CW_false, condT, condF, RQ_some, tupA_one, tupA_two, tupA_nil, Nat.reduceSub, Nat.reduceAdd, Nat.reduceMul, Nat.zero_add, Nat.add_zero, Nat.reduceLeDiff, Nat.reduceEqDiff, eqV, eqAll, fillA, and_self, and_true, true_and, Nat.le_refl, Bool.not_true, Bool.not_false, Bool.false_xor, Bool.true_xor, cond_true, cond_false, List.replicate, if_false, reduceIte, resAll, resA, ne_eq, decide_not, decide_true, decide_false, Int.reduceEq, Bool.not_true, Bool.not_false, not_true_eq_false, not_false_eq_true, cond_bool, cond_int, beq_self_eq_true, Int.reduceBEq, Bool.and_self, Bool.and_false, Bool.false_and, Bool.xor_false, Bool.xor_true, loadN_ldC, ldC_none, ldC_somes, stC_aggs, splice, storeN_stC, stC_int, stC_bool, stC_ptr, stC_nilp, stC_sl, stC_nils, getC_gcO, gcO_cells, W_draw_eq, ↓W_scope, ev_clear, evT, evF, evX, evM, ↓exitQ_normal, ↓exitQ_ret, ↓exitQ_exit, saA_self, saO_self, if_pos, if_neg, wrapI, get_concat, set_concat, Int.toNat_natCast, Int.toNat_zero, List.nil_append, Nat.mul_one, decide_eq_true, decide_eq_false, Int.reduceLE, Int.reduceLT, Int.reduceNeg, Bool.false_or, Bool.true_or, Bool.or_false, Bool.or_true, wrapU, Int.reduceAdd, Int.reduceSub, Int.reduceMul, List.append_assoc, List.length_append, get_mid, get_mid0, set_mid, set_mid0, List.length_set, List.length_cons, List.length_nil, List.cons_append, List.getElem?_append_left, List.set_append_left, get_at, get_at0, set_at, set_at0, List.getElem?_set_self, List.getElem?_set_ne, evA, hap, gbB, gbB', a199]
  have hnr := fun K : MM => newlay_run (c := c) (p := p) ((Own.si own).1.keep (Keep.app mB K)) (by omega)
  simp only [cfC] at hnr
  refine OKT_fn (hnr _) ?_
  rintro _ m3 ⟨xj, lx, rfl, hxl, k3, hlm, hfx⟩
  simp only [List.length_append, List.length_cons, List.length_nil] at hxl hfx
  have kB3 : Keep mB m3 := (Keep.app mB _).trans k3
  have gy3 := k3.get (i := mB.length) (c := .cells 12 false [.int .i64 0, .int .i64 0, .int .i64 0, .int .i64 0, .int .i64 0, .int .i64 0, .int .i64 0, .nils, .int .i64 0, .int .u64 0, .int .i64 0, .int .i64 0]) (by rw [get_mid0]; rfl)
  have gb3 := kB3.get gbB
  have f147 := fun m : MM => config_eq m c
  simp only [cfC] at f147
  simp (disch := first | assumption | omega | (simp only [List.length_cons, List.length_nil, List.length_set, List.length_append] <;> omega) | (simp only [get_mid, get_mid0, List.cons_append, List.append_assoc, List.getElem?_cons_zero, List.getElem?_cons_succ])) only [ek, ↓evW, ↓evQ, evB, evS, evL, List.map, AV.cells, List.all, AV.one, Bool.and_true, Bool.true_and, if_true, ↓thenQ_normal, ↓thenQ_exit, ↓thenQ_ret, ↓blockQ_normal, ↓blockQ_ret, ↓blockQ_exit, ↓CW_true, ↓CW_false, CW_true, CW_false, condT, condF, RQ_some, tupA_one, tupA_two, tupA_nil, Nat.reduceSub, Nat.reduceAdd, Nat.reduceMul, Nat.zero_add, Nat.add_zero, Nat.reduceLeDiff, Nat.reduceEqDiff, eqV, eqAll, fillA, and_self, and_true, true_and, Nat.le_refl, Bool.not_true, Bool.not_false, Bool.false_xor, Bool.true_xor, cond_true, cond_false, List.replicate, if_false, reduceIte, resAll, resA, ne_eq, decide_not, decide_true, decide_false, Int.reduceEq, Bool.not_true, Bool.not_false, not_true_eq_false, not_false_eq_true, cond_bool, cond_int, beq_self_eq_true, Int.reduceBEq, Bool.and_self, Bool.and_false, Bool.false_and, Bool.xor_false, Bool.xor_true, loadN_ldC, ldC_none, ldC_somes, stC_aggs, splice, storeN_stC, stC_int, stC_bool, stC_ptr, stC_nilp, stC_sl, stC_nils, getC_gcO, gcO_cells, W_draw_eq, ↓W_scope, ev_clear, evT, evF, evX, evM, ↓exitQ_normal, ↓exitQ_ret, ↓exitQ_exit, saA_self, saO_self, if_pos, if_neg, wrapI, get_concat, set_concat, Int.toNat_natCast, Int.toNat_zero, List.nil_append, Nat.mul_one, decide_eq_true, decide_eq_false, Int.reduceLE, Int.reduceLT, Int.reduceNeg, Bool.false_or, Bool.true_or, Bool.or_false, Bool.or_true, wrapU, Int.reduceAdd, Int.reduceSub, Int.reduceMul, List.append_assoc, List.length_append, get_mid, get_mid0, set_mid, set_mid0, List.length_set, List.length_cons, List.length_nil, List.cons_append, List.getElem?_append_left, List.set_append_left, get_at, get_at0, set_at, set_at0, List.getElem?_set_self, List.getElem?_set_ne, gb3, a147, f147, a201, hre]
  have hQ3 := hQ.keep ((hk2.trans kB).trans kB3)
  have hrn := fun K : MM => rlnew_run (c := c) (p := p) (hQ3.keep (Keep.app m3 K)) (by omega)
  simp only [cfC] at hrn
  refine OKT_fn (hrn _) ?_
  rintro _ m4 ⟨k4, ly, rfl, syl, syn, hfy⟩
  have k34 : Keep m3 m4 := (Keep.app m3 _).trans k4
  have gy4 := k34.get gy3
  have ly4 : mB.length < m4.length := (List.getElem?_eq_some_iff.1 gy4).1
  have honeh := slOne syl
  have hall := rlC_all (lcC c p) (lcP c p) (newL c p ls) honeh
  have gy3' := fun K : MM => (Keep.app m3 K).get gy3
  simp (disch := first | assumption | omega | (simp only [List.length_cons, List.length_nil, List.length_set, List.length_append] <;> omega) | (simp only [get_mid, get_mid0, List.cons_append, List.append_assoc, List.getElem?_cons_zero, List.getElem?_cons_succ])) only [ek, ↓evW, ↓evQ, evB, evS, evL, List.map, AV.cells, List.all, AV.one, Bool.and_true, Bool.true_and, if_true, ↓thenQ_normal, ↓thenQ_exit, ↓thenQ_ret, ↓blockQ_normal, ↓blockQ_ret, ↓blockQ_exit, ↓CW_true, ↓CW_false, CW_true, CW_false, condT, condF, RQ_some, tupA_one, tupA_two, tupA_nil, Nat.reduceSub, Nat.reduceAdd, Nat.reduceMul, Nat.zero_add, Nat.add_zero, Nat.reduceLeDiff, Nat.reduceEqDiff, eqV, eqAll, fillA, and_self, and_true, true_and, Nat.le_refl, Bool.not_true, Bool.not_false, Bool.false_xor, Bool.true_xor, cond_true, cond_false, List.replicate, if_false, reduceIte, resAll, resA, ne_eq, decide_not, decide_true, decide_false, Int.reduceEq, Bool.not_true, Bool.not_false, not_true_eq_false, not_false_eq_true, cond_bool, cond_int, beq_self_eq_true, Int.reduceBEq, Bool.and_self, Bool.and_false, Bool.false_and, Bool.xor_false, Bool.xor_true, loadN_ldC, ldC_none, ldC_somes, stC_aggs, splice, storeN_stC, stC_int, stC_bool, stC_ptr, stC_nilp, stC_sl, stC_nils, getC_gcO, gcO_cells, W_draw_eq, ↓W_scope, ev_clear, evT, evF, evX, evM, ↓exitQ_normal, ↓exitQ_ret, ↓exitQ_exit, saA_self, saO_self, if_pos, if_neg, wrapI, get_concat, set_concat, Int.toNat_natCast, Int.toNat_zero, List.nil_append, Nat.mul_one, decide_eq_true, decide_eq_false, Int.reduceLE, Int.reduceLT, Int.reduceNeg, Bool.false_or, Bool.true_or, Bool.or_false, Bool.or_true, wrapU, Int.reduceAdd, Int.reduceSub, Int.reduceMul, List.append_assoc, List.length_append, get_mid, get_mid0, set_mid, set_mid0, List.length_set, List.length_cons, List.length_nil, List.cons_append, List.getElem?_append_left, List.set_append_left, get_at, get_at0, set_at, set_at0, List.getElem?_set_self, List.getElem?_set_ne, gy4, gy3, gy3', gbB', gb3, rlC_len, hall, List.drop_succ_cons, List.drop_zero, List.drop_nil, List.append_nil]
  obtain ⟨M5, hM5⟩ : ∃ M5 : MM, M5 = m4.set mB.length (.cells 12 false (rlC (lcC c p) (lcP c p) (newL c p ls) ly)) := ⟨_, rfl⟩
  rw [← hM5]
  have l3 := k3.1
  simp only [List.length_append, List.length_cons, List.length_nil] at l3
  have l34 := k34.1
  have lA0 : m0.length < mA.length := by omega
  have hne : ∀ sz, sz ≠ 12 → ∀ ro L, m4[mB.length]? ≠ some (.cells sz ro L) := fun sz hsz ro L hh => by rw [gy4] at hh; injection hh with hh; injection hh with hh; exact hsz hh.symm
  have hk4 : Keep m0 m4 := ((hk2.trans kB).trans kB3).trans k34
  have jm : j < mB.length := (List.getElem?_eq_some_iff.1 gjB).1
  have hS : LyS m0 c (lcC c p) p (lcP c p) j m2.length xj mB.length ps lv (newL c p ls) xs0 xs0.length lx ly v M5 := by
    rw [hM5]
    refine ⟨hk4.set (by omega) _, ⟨by rw [List.getElem?_set_ne (by omega)]; exact k34.get hlm.get, Sl.put (hlm.l.keep k34) (hne 1 (by decide)) _, fun hp => ((hlm.nx hp).keep k34).put (hne 1 (by decide)) _⟩, ⟨st, by rw [List.getElem?_set_ne (by omega)]; exact (kB3.trans k34).get gjB, rm⟩, by rw [List.getElem?_set_ne (by omega)]; exact (kB3.trans k34).get grB, Sl.put (s2.keep (kB.trans (kB3.trans k34))) (hne 1 (by decide)) _, List.getElem?_set_self ly4, Sl.put syl (hne 1 (by decide)) _, fun hp => (syn hp).put (hne 1 (by decide)) _, by omega, newL_ok c p (by omega), ⟨x1, x2⟩, ?_, Sl.put (hl.keep hk4) (hne 3 (by decide)) _⟩
    unfold lcC lcP
    by_cases hk : thereP c p
    · rw [if_pos hk, if_pos hk]; exact .inr ⟨rfl, rfl⟩
    · have : newL c p ls = ⟨0, 0, 0, 0, []⟩ := if_neg hk
      rw [this]; exact .inl rfl
  have own5 : Own mA M5 1 ls.length (iC ls) ow := by
    rw [hM5]
    rcases own with h | ⟨q, e1, e2, e3, e4⟩
    · exact .inl h
    · exact .inr ⟨q, e1, by rw [List.getElem?_set_ne (by omega)]; exact (kB3.trans k34).get e2, e3, by simp only [List.length_set]; omega⟩
  have hoff : ∀ q n w B, ow = .sl q 0 n none → Fr B w → mB.length ≤ B → Off q w := fun q n w B hw hf hB => by
    intro q2 oo n2 cap h1 h2 h3
    rcases hf with h | ⟨_, _, _, _, h, h'⟩
    · rw [h] at h1; cases h1
    · rw [h] at h1; injection h1 with e1
      rcases own with ⟨_, _, h4⟩ | ⟨q3, h4, _, _, h5⟩
      · rw [h4] at hw; cases hw
      · rw [h4] at hw; injection hw with e2; omega
  have gb5 : M5[m0.length]? = some (.cells 6 false (cfC c)) := by rw [hM5, List.getElem?_set_ne (by omega)]; exact k34.get gb3
  have hb0 : m0.length ≤ xj ∧ m0.length ≤ m2.length ∧ m0.length ≤ mB.length := by omega
  refine W_mono (lyW_run (c0 := c) own5 (by omega)) ?_
  rintro _ e6 M6 ⟨rfl, ⟨z12, z13, z14, z15, z16, z17, z18, z19, z20, z21, z22, z23, z24, z25, z26, z27, z28, rfl⟩, hM6⟩
  have hS6 : LyS m0 c (lcC c p) p (lcP c p) j m2.length xj mB.length ps lv (newL c p ls) xs0 xs0.length lx ly v M6 := by
    rcases hM6 with rfl | ⟨q, e1, e2, e3⟩
    · exact hS
    · refine hS.mv e3 e2 ?_ (hoff _ _ _ _ e1 hfx (by omega)) (hoff _ _ _ _ e1 hfy (by simp only [List.length_append]; omega))
      rcases own with ⟨_, _, h4⟩ | ⟨q3, h4, _, h5, _⟩
      · rw [h4] at e1; cases e1
      · rw [h4] at e1; injection e1 with e1; omega
  simp only [thenQ_normal]
  simp (disch := first | assumption | omega | (simp only [List.length_cons, List.length_nil, List.length_set, List.length_append] <;> omega) | (simp only [get_mid, get_mid0, List.cons_append, List.append_assoc, List.getElem?_cons_zero, List.getElem?_cons_succ])) only [ek, ↓evW, ↓evQ, evB, evS, evL, List.map, AV.cells, List.all, AV.one, Bool.and_true, Bool.true_and, if_true, ↓thenQ_normal, ↓thenQ_exit, ↓thenQ_ret, ↓blockQ_normal, ↓blockQ_ret, ↓blockQ_exit, ↓CW_true, ↓CW_false, CW_true, CW_false, condT, condF, RQ_some, tupA_one, tupA_two, tupA_nil, Nat.reduceSub, Nat.reduceAdd, Nat.reduceMul, Nat.zero_add, Nat.add_zero, Nat.reduceLeDiff, Nat.reduceEqDiff, eqV, eqAll, fillA, and_self, and_true, true_and, Nat.le_refl, Bool.not_true, Bool.not_false, Bool.false_xor, Bool.true_xor, cond_true, cond_false, List.replicate, if_false, reduceIte, resAll, resA, ne_eq, decide_not, decide_true, decide_false, Int.reduceEq, Bool.not_true, Bool.not_false, not_true_eq_false, not_false_eq_true, cond_bool, cond_int, beq_self_eq_true, Int.reduceBEq, Bool.and_self, Bool.and_false, Bool.false_and, Bool.xor_false, Bool.xor_true, loadN_ldC, ldC_none, ldC_somes, stC_aggs, splice, storeN_stC, stC_int, stC_bool, stC_ptr, stC_nilp, stC_sl, stC_nils, getC_gcO, gcO_cells, W_draw_eq, ↓W_scope, ev_clear, evT, evF, evX, evM, ↓exitQ_normal, ↓exitQ_ret, ↓exitQ_exit, saA_self, saO_self, if_pos, if_neg, wrapI, get_concat, set_concat, Int.toNat_natCast, Int.toNat_zero, List.nil_append, Nat.mul_one, decide_eq_true, decide_eq_false, Int.reduceLE, Int.reduceLT, Int.reduceNeg, Bool.false_or, Bool.true_or, Bool.or_false, Bool.or_true, wrapU, Int.reduceAdd, Int.reduceSub, Int.reduceMul, List.append_assoc, List.length_append, get_mid, get_mid0, set_mid, set_mid0, List.length_set, List.length_cons, List.length_nil, List.cons_append, List.getElem?_append_left, List.set_append_left, get_at, get_at0, set_at, set_at0, List.getElem?_set_self, List.getElem?_set_ne]
  refine W_loop (LyI m0 c c (lcC c p) p p (lcP c p) qv bv m0.length j m2.length ow xj mB.length ps lv) (ps.length + 1) (by simp only [FUEL]; omega) ⟨0, newL c p ls, xs0, xs0.length, lx, ly, v, _, _, _, _, _, _, _, _, _, _, _, _, _, _, _, _, rfl, by omega, by omega, by omega, by omega, hS6⟩ ?_
  clear hS hS6 hM6 hoff own5 gb5 hM5 hne hk4 gy3' gy4 gy3 gb3 grB gjB gbB gbB' own hap hall honeh syl syn hfx hfy hlm kB3 k34 k4 k3 kB kAB k2A grA hsB hk2 hk1 g2 rm s1 s2 hone lb hrn hnr f147 hB1 gb1 x1 x2 hxl hQ3 hQ hB k2 k1 gb2 hmA hOB
  generalize lcC c p = c'
  generalize lcP c p = p'
  generalize mB.length = yb at hb0 ⊢
  generalize m2.length = rb at hb0 ⊢
  rintro k e m ⟨i, s, xs, o, lx, ly, v, z12, z14, z15, z16, z17, z18, z19, z20, z21, z22, z23, z24, z25, z26, z27, z28, rfl, rfl, hi, ho0, ho1, hS⟩
  exact lbody_run hlenl hv hb0.1 hb0.2.1 hb0.2.2 hj0 hi ho0 ho1 (by omega) hS
end Go.Am.F09
end
