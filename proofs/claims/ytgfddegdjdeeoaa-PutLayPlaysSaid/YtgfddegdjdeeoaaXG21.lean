import Derived.Test.YtgfddegdjdeeoaaXG20
set_option linter.unusedSimpArgs false
set_option linter.unusedVariables false
section
namespace Go.Am.F09
open Go.Am.F06 Go.Am.F10
def Cl2 (m : MM) (xs : List Int) (r : AV) (m' : MM) : Prop := Keep m m' ∧ ((xs = [] ∧ lenA r = some 0 ∧ (r = .nils ∨ ∃ q o c, r = .sl q o 0 c ∧ m.length ≤ q)) ∨ ∃ q, r = .sl q 0 xs.length none ∧ m.length ≤ q ∧ m'[q]? = some (.cells 1 false (iC xs)))
theorem clone_run2 {m : MM} {wr : Bool} {xs : List Int} {v : AV} (h : SI m wr xs v) (hn : xs.length ≤ 100000) : Fn [] slices_Clone_int [v] m (Cl2 m xs) := by
  refine Fn_of rfl ?_
  rcases Nat.eq_zero_or_pos xs.length with h0 | h0
  · have hx0 : xs = [] := List.length_eq_zero_iff.1 h0
    subst hx0
    rcases h.2 with ⟨rfl, _⟩ | ⟨q, o, cap, rfl, _⟩
    · simp (disch := first | assumption | omega | (simp only [List.length_cons, List.length_nil, List.length_set, List.length_append] <;> omega) | (simp only [get_mid, get_mid0, List.cons_append, List.append_assoc, List.getElem?_cons_zero, List.getElem?_cons_succ])) only [slices_Clone_int, ek, ↓evW, ↓evQ, evB, evS, evL, List.map, AV.cells, List.all, AV.one, Bool.and_true, Bool.true_and, if_true, ↓thenQ_normal, ↓thenQ_exit, ↓thenQ_ret, ↓blockQ_normal, ↓blockQ_ret, ↓blockQ_exit, ↓CW_true, ↓CW_false, CW_true, CW_false, condT, condF, RQ_some, tupA_one, tupA_two, tupA_nil, Nat.reduceSub, Nat.reduceAdd, Nat.reduceMul, Nat.zero_add, Nat.add_zero, Nat.reduceLeDiff, Nat.reduceEqDiff, eqV, eqAll, fillA, and_self, and_true, true_and, Nat.le_refl, Bool.not_true, Bool.not_false, Bool.false_xor, Bool.true_xor, cond_true, cond_false, List.replicate, if_false, reduceIte, resAll, resA, ne_eq, decide_not, decide_true, decide_false, Int.reduceEq, Bool.not_true, Bool.not_false, not_true_eq_false, not_false_eq_true, cond_bool, cond_int, beq_self_eq_true, Int.reduceBEq, Bool.and_self, Bool.and_false, Bool.false_and, Bool.xor_false, Bool.xor_true, loadN_ldC, ldC_none, ldC_somes, stC_aggs, splice, storeN_stC, stC_int, stC_bool, stC_ptr, stC_nilp, stC_sl, stC_nils, getC_gcO, gcO_cells, W_draw_eq, ↓W_scope, ev_clear, evT, evF, evX, evM, ↓exitQ_normal, ↓exitQ_ret, ↓exitQ_exit, saA_self, saO_self, if_pos, if_neg, wrapI, get_concat, set_concat, Int.toNat_natCast, Int.toNat_zero, List.nil_append, Nat.mul_one, decide_eq_true, decide_eq_false, Int.reduceLE, Int.reduceLT, Int.reduceNeg, Bool.false_or, Bool.true_or, Bool.or_false, Bool.or_true, wrapU, Int.reduceAdd, Int.reduceSub, Int.reduceMul, List.append_assoc, List.length_append, get_mid, get_mid0, set_mid, set_mid0, List.length_set, List.length_cons, List.length_nil, List.cons_append, List.getElem?_append_left, List.set_append_left, get_at, get_at0, set_at, set_at0, List.getElem?_set_self, List.getElem?_set_ne]
      exact ⟨.refl _, .inl ⟨rfl, rfl, .inl rfl⟩⟩
    · have happ : appendA 1 8 (.sl m.length 0 0 (some 0)) (.sl q o 0 cap) (m ++ [.cells 1 false []]) = some (.sl m.length 0 0 (some 0), m ++ [.cells 1 false []]) := rfl
      simp (disch := first | assumption | omega | (simp only [List.length_cons, List.length_nil, List.length_set, List.length_append] <;> omega) | (simp only [get_mid, get_mid0, List.cons_append, List.append_assoc, List.getElem?_cons_zero, List.getElem?_cons_succ])) only [slices_Clone_int, ek, ↓evW, ↓evQ, evB, evS, evL, List.map, AV.cells, List.all, AV.one, Bool.and_true, Bool.true_and, if_true, ↓thenQ_normal, ↓thenQ_exit, ↓thenQ_ret, ↓blockQ_normal, ↓blockQ_ret, ↓blockQ_exit, ↓CW_true, ↓CW_false, CW_true, CW_false, condT, condF, RQ_some, tupA_one, tupA_two, tupA_nil, Nat.reduceSub, Nat.reduceAdd, Nat.reduceMul, Nat.zero_add, Nat.add_zero, Nat.reduceLeDiff, Nat.reduceEqDiff, eqV, eqAll, fillA, and_self, and_true, true_and, Nat.le_refl, Bool.not_true, Bool.not_false, Bool.false_xor, Bool.true_xor, cond_true, cond_false, List.replicate, if_false, reduceIte, resAll, resA, ne_eq, decide_not, decide_true, decide_false, Int.reduceEq, Bool.not_true, Bool.not_false, not_true_eq_false, not_false_eq_true, cond_bool, cond_int, beq_self_eq_true, Int.reduceBEq, Bool.and_self, Bool.and_false, Bool.false_and, Bool.xor_false, Bool.xor_true, loadN_ldC, ldC_none, ldC_somes, stC_aggs, splice, storeN_stC, stC_int, stC_bool, stC_ptr, stC_nilp, stC_sl, stC_nils, getC_gcO, gcO_cells, W_draw_eq, ↓W_scope, ev_clear, evT, evF, evX, evM, ↓exitQ_normal, ↓exitQ_ret, ↓exitQ_exit, saA_self, saO_self, if_pos, if_neg, wrapI, get_concat, set_concat, Int.toNat_natCast, Int.toNat_zero, List.nil_append, Nat.mul_one, decide_eq_true, decide_eq_false, Int.reduceLE, Int.reduceLT, Int.reduceNeg, Bool.false_or, Bool.true_or, Bool.or_false, Bool.or_true, wrapU, Int.reduceAdd, Int.reduceSub, Int.reduceMul, List.append_assoc, List.length_append, get_mid, get_mid0, set_mid, set_mid0, List.length_set, List.length_cons, List.length_nil, List.cons_append, List.getElem?_append_left, List.set_append_left, get_at, get_at0, set_at, set_at0, List.getElem?_set_self, List.getElem?_set_ne, evA, fillA, repeatL, List.flatten_nil, happ, List.length_nil]
      exact ⟨.app _ _, .inl ⟨rfl, rfl, .inr ⟨_, _, _, rfl, Nat.le_refl _⟩⟩⟩
  · obtain ⟨q, o, cap, ro, L, rfl, h2, h3, h4, h5⟩ := h.at h0
    have hq : q < m.length := (List.getElem?_eq_some_iff.1 h2).1
    have hrow : rowOf (m ++ [Chunk.cells 1 false []]) 1 (.sl q o xs.length cap) = some (iC xs) := by
      simp only [rowOf, Am.getC]
      rw [List.getElem?_append_left hq, h2]
      simp only
      rw [if_neg (by omega), if_pos h4, h3]
    have hz : rowOf (m ++ [Chunk.cells 1 false []]) 1 (.sl m.length 0 0 (some 0)) = some [] := rfl
    have happ : appendA 1 8 (.sl m.length 0 0 (some 0)) (.sl q o xs.length cap) (m ++ [.cells 1 false []]) = some (.sl (m.length + 1) 0 xs.length none, m ++ [.cells 1 false [], .cells 1 false (iC xs)]) := by
      simp only [appendA, lenA, hrow, hz]
      rw [if_neg (by omega), if_neg (by omega), if_pos ⟨by omega, by omega, iC_one _⟩]
      simp
    simp (disch := first | assumption | omega | (simp only [List.length_cons, List.length_nil, List.length_set, List.length_append] <;> omega) | (simp only [get_mid, get_mid0, List.cons_append, List.append_assoc, List.getElem?_cons_zero, List.getElem?_cons_succ])) only [slices_Clone_int, ek, ↓evW, ↓evQ, evB, evS, evL, List.map, AV.cells, List.all, AV.one, Bool.and_true, Bool.true_and, if_true, ↓thenQ_normal, ↓thenQ_exit, ↓thenQ_ret, ↓blockQ_normal, ↓blockQ_ret, ↓blockQ_exit, ↓CW_true, ↓CW_false, CW_true, CW_false, condT, condF, RQ_some, tupA_one, tupA_two, tupA_nil, Nat.reduceSub, Nat.reduceAdd, Nat.reduceMul, Nat.zero_add, Nat.add_zero, Nat.reduceLeDiff, Nat.reduceEqDiff, eqV, eqAll, fillA, and_self, and_true, true_and, Nat.le_refl, Bool.not_true, Bool.not_false, Bool.false_xor, Bool.true_xor, cond_true, cond_false, List.replicate, if_false, reduceIte, resAll, resA, ne_eq, decide_not, decide_true, decide_false, Int.reduceEq, Bool.not_true, Bool.not_false, not_true_eq_false, not_false_eq_true, cond_bool, cond_int, beq_self_eq_true, Int.reduceBEq, Bool.and_self, Bool.and_false, Bool.false_and, Bool.xor_false, Bool.xor_true, loadN_ldC, ldC_none, ldC_somes, stC_aggs, splice, storeN_stC, stC_int, stC_bool, stC_ptr, stC_nilp, stC_sl, stC_nils, getC_gcO, gcO_cells, W_draw_eq, ↓W_scope, ev_clear, evT, evF, evX, evM, ↓exitQ_normal, ↓exitQ_ret, ↓exitQ_exit, saA_self, saO_self, if_pos, if_neg, wrapI, get_concat, set_concat, Int.toNat_natCast, Int.toNat_zero, List.nil_append, Nat.mul_one, decide_eq_true, decide_eq_false, Int.reduceLE, Int.reduceLT, Int.reduceNeg, Bool.false_or, Bool.true_or, Bool.or_false, Bool.or_true, wrapU, Int.reduceAdd, Int.reduceSub, Int.reduceMul, List.append_assoc, List.length_append, get_mid, get_mid0, set_mid, set_mid0, List.length_set, List.length_cons, List.length_nil, List.cons_append, List.getElem?_append_left, List.set_append_left, get_at, get_at0, set_at, set_at0, List.getElem?_set_self, List.getElem?_set_ne, evA, fillA, repeatL, List.flatten_nil, happ]
    exact ⟨.app _ _, .inr ⟨_, rfl, by omega, by rw [get_mid]; rfl⟩⟩
def newL (c : Cf) (p : Int) (xs : List Int) : LS := if thereP c p then ⟨1, 0, 0, 0, posL xs⟩ else ⟨0, 0, 0, 0, []⟩
theorem newL_ok (c : Cf) (p : Int) {xs : List Int} (h : xs.length ≤ 100) : LOk c p (newL c p xs) := by
  have := pos_len xs
  unfold newL; split
  · rename_i hp
    exact ⟨by unfold W64; simp, .inr ⟨hp, .inl rfl⟩, by simp only; omega⟩
  · exact ⟨by unfold W64; simp, .inl rfl, by simp⟩
def NlP (m : MM) (c : Cf) (p : Int) (xs : List Int) (r : AV) (m' : MM) : Prop := ∃ xj lv, r = .ptr xj 0 ∧ m.length ≤ xj ∧ Keep m m' ∧ LM m' xj c p (newL c p xs) lv ∧ Fr m.length lv
def Gnl : List (Nat × AFun Ob) := [(206, c_put_from), (208, c_slices_Clone_int), (95, amFunc Gdf slices_DeleteFunc_int)]
set_option maxHeartbeats 8000000 in
theorem newlay_run {m : MM} {wr : Bool} {c : Cf} {p : Int} {xs : List Int} {v : AV} (hv : SI m wr xs v) (hn : xs.length ≤ 1000) : Fn Gnl put_NewLay [.agg (cfC c), .int .i64 p, v] m (NlP m c p xs) := by
  have a206 : assoc Gnl 206 = some c_put_from := rfl
  have a208 : assoc Gnl 208 = some c_slices_Clone_int := rfl
  have a95 : assoc Gnl 95 = some (amFunc Gdf slices_DeleteFunc_int) := rfl
  have he : c_slices_Clone_int (X := Ob) = amFunc [] slices_Clone_int := rfl
  generalize Gnl = G at a206 a208 a95 ⊢
  have hfr := from_eq (m ++ [.cells 6 false (cfC c)]) c p
  by_cases h1 : thereP c p
  · have hnl : newL c p xs = ⟨1, 0, 0, 0, posL xs⟩ := if_pos h1
    unfold NlP
    rw [hnl]
    rw [fromA, if_pos h1] at hfr
    simp only [rgC, cfC, List.cons_append, List.nil_append, List.append_assoc] at hfr
    refine Fn_of rfl ?_
    simp (disch := first | assumption | omega | (simp only [List.length_cons, List.length_nil, List.length_set, List.length_append] <;> omega) | (simp only [get_mid, get_mid0, List.cons_append, List.append_assoc, List.getElem?_cons_zero, List.getElem?_cons_succ])) only [put_NewLay, ek, ↓evW, ↓evQ, evB, evS, evL, List.map, AV.cells, List.all, AV.one, Bool.and_true, Bool.true_and, if_true, ↓thenQ_normal, ↓thenQ_exit, ↓thenQ_ret, ↓blockQ_normal, ↓blockQ_ret, ↓blockQ_exit, ↓CW_true, ↓CW_false, CW_true, CW_false, condT, condF, RQ_some, tupA_one, tupA_two, tupA_nil, Nat.reduceSub, Nat.reduceAdd, Nat.reduceMul, Nat.zero_add, Nat.add_zero, Nat.reduceLeDiff, Nat.reduceEqDiff, eqV, eqAll, fillA, and_self, and_true, true_and, Nat.le_refl, Bool.not_true, Bool.not_false, Bool.false_xor, Bool.true_xor, cond_true, cond_false, List.replicate, if_false, reduceIte, resAll, resA, ne_eq, decide_not, decide_true, decide_false, Int.reduceEq, Bool.not_true, Bool.not_false, not_true_eq_false, not_false_eq_true, cond_bool, cond_int, beq_self_eq_true, Int.reduceBEq, Bool.and_self, Bool.and_false, Bool.false_and, Bool.xor_false, Bool.xor_true, loadN_ldC, ldC_none, ldC_somes, stC_aggs, splice, storeN_stC, stC_int, stC_bool, stC_ptr, stC_nilp, stC_sl, stC_nils, getC_gcO, gcO_cells, W_draw_eq, ↓W_scope, ev_clear, evT, evF, evX, evM, ↓exitQ_normal, ↓exitQ_ret, ↓exitQ_exit, saA_self, saO_self, if_pos, if_neg, wrapI, get_concat, set_concat, Int.toNat_natCast, Int.toNat_zero, List.nil_append, Nat.mul_one, decide_eq_true, decide_eq_false, Int.reduceLE, Int.reduceLT, Int.reduceNeg, Bool.false_or, Bool.true_or, Bool.or_false, Bool.or_true, wrapU, Int.reduceAdd, Int.reduceSub, Int.reduceMul, List.append_assoc, List.length_append, get_mid, get_mid0, set_mid, set_mid0, List.length_set, List.length_cons, List.length_nil, List.cons_append, List.getElem?_append_left, List.set_append_left, get_at, get_at0, set_at, set_at0, List.getElem?_set_self, List.getElem?_set_ne, cfC, a206, hfr, List.set_set, List.drop_succ_cons, List.drop_zero, List.drop_nil, List.append_nil, a208, he]
    have hcl := fun K : MM => clone_run2 (hv.keep (Keep.app m K)) (by omega)
    refine OK_fn (hcl _) ?_
    rintro w m1 ⟨k1, hw⟩
    have km : Keep m m1 := (Keep.app m _).trans k1
    have g7 := k1.get (i := m.length + 7) (c := .cells 12 false (layC c p ⟨1, 0, 0, 0, []⟩ .nils)) (by rw [get_mid]; rfl)
    have l7 : m.length + 7 < m1.length := (List.getElem?_eq_some_iff.1 g7).1
    simp only [List.length_append, List.length_cons, List.length_nil] at hw
    rcases hw with ⟨rfl, hl0, hw⟩ | ⟨q, rfl, hq, hq1⟩
    · simp (disch := first | assumption | omega | (simp only [List.length_cons, List.length_nil, List.length_set, List.length_append] <;> omega) | (simp only [get_mid, get_mid0, List.cons_append, List.append_assoc, List.getElem?_cons_zero, List.getElem?_cons_succ])) only [ek, ↓evW, ↓evQ, evB, evS, evL, List.map, AV.cells, List.all, AV.one, Bool.and_true, Bool.true_and, if_true, ↓thenQ_normal, ↓thenQ_exit, ↓thenQ_ret, ↓blockQ_normal, ↓blockQ_ret, ↓blockQ_exit, ↓CW_true, ↓CW_false, CW_true, CW_false, condT, condF, RQ_some, tupA_one, tupA_two, tupA_nil, Nat.reduceSub, Nat.reduceAdd, Nat.reduceMul, Nat.zero_add, Nat.add_zero, Nat.reduceLeDiff, Nat.reduceEqDiff, eqV, eqAll, fillA, and_self, and_true, true_and, Nat.le_refl, Bool.not_true, Bool.not_false, Bool.false_xor, Bool.true_xor, cond_true, cond_false, List.replicate, if_false, reduceIte, resAll, resA, ne_eq, decide_not, decide_true, decide_false, Int.reduceEq, Bool.not_true, Bool.not_false, not_true_eq_false, not_false_eq_true, cond_bool, cond_int, beq_self_eq_true, Int.reduceBEq, Bool.and_self, Bool.and_false, Bool.false_and, Bool.xor_false, Bool.xor_true, loadN_ldC, ldC_none, ldC_somes, stC_aggs, splice, storeN_stC, stC_int, stC_bool, stC_ptr, stC_nilp, stC_sl, stC_nils, getC_gcO, gcO_cells, W_draw_eq, ↓W_scope, ev_clear, evT, evF, evX, evM, ↓exitQ_normal, ↓exitQ_ret, ↓exitQ_exit, saA_self, saO_self, if_pos, if_neg, wrapI, get_concat, set_concat, Int.toNat_natCast, Int.toNat_zero, List.nil_append, Nat.mul_one, decide_eq_true, decide_eq_false, Int.reduceLE, Int.reduceLT, Int.reduceNeg, Bool.false_or, Bool.true_or, Bool.or_false, Bool.or_true, wrapU, Int.reduceAdd, Int.reduceSub, Int.reduceMul, List.append_assoc, List.length_append, get_mid, get_mid0, set_mid, set_mid0, List.length_set, List.length_cons, List.length_nil, List.cons_append, List.getElem?_append_left, List.set_append_left, get_at, get_at0, set_at, set_at0, List.getElem?_set_self, List.getElem?_set_ne, a95]
      refine OK_fn (delete_nil hl0) ?_
      rintro w2 m2 ⟨hw2, rfl⟩
      rw [hw2]
      clear hw2
      have hx : ∃ q o cc, w = .nils ∨ (w = .sl q o 0 cc ∧ m.length ≤ q) := by
        rcases hw with h | ⟨q, o, cc, h, h'⟩
        · exact ⟨0, 0, none, .inl h⟩
        · exact ⟨q, o, cc, .inr ⟨h, by omega⟩⟩
      have hp0 : posL [] = [] := rfl
      rw [hp0]
      simp only [layC, rgC, cfC, List.cons_append, List.nil_append] at g7
      obtain ⟨q, o, cc, rfl | ⟨rfl, hqm⟩⟩ := hx
      · simp (disch := first | assumption | omega | (simp only [List.length_cons, List.length_nil, List.length_set, List.length_append] <;> omega) | (simp only [get_mid, get_mid0, List.cons_append, List.append_assoc, List.getElem?_cons_zero, List.getElem?_cons_succ])) only [ek, ↓evW, ↓evQ, evB, evS, evL, List.map, AV.cells, List.all, AV.one, Bool.and_true, Bool.true_and, if_true, ↓thenQ_normal, ↓thenQ_exit, ↓thenQ_ret, ↓blockQ_normal, ↓blockQ_ret, ↓blockQ_exit, ↓CW_true, ↓CW_false, CW_true, CW_false, condT, condF, RQ_some, tupA_one, tupA_two, tupA_nil, Nat.reduceSub, Nat.reduceAdd, Nat.reduceMul, Nat.zero_add, Nat.add_zero, Nat.reduceLeDiff, Nat.reduceEqDiff, eqV, eqAll, fillA, and_self, and_true, true_and, Nat.le_refl, Bool.not_true, Bool.not_false, Bool.false_xor, Bool.true_xor, cond_true, cond_false, List.replicate, if_false, reduceIte, resAll, resA, ne_eq, decide_not, decide_true, decide_false, Int.reduceEq, Bool.not_true, Bool.not_false, not_true_eq_false, not_false_eq_true, cond_bool, cond_int, beq_self_eq_true, Int.reduceBEq, Bool.and_self, Bool.and_false, Bool.false_and, Bool.xor_false, Bool.xor_true, loadN_ldC, ldC_none, ldC_somes, stC_aggs, splice, storeN_stC, stC_int, stC_bool, stC_ptr, stC_nilp, stC_sl, stC_nils, getC_gcO, gcO_cells, W_draw_eq, ↓W_scope, ev_clear, evT, evF, evX, evM, ↓exitQ_normal, ↓exitQ_ret, ↓exitQ_exit, saA_self, saO_self, if_pos, if_neg, wrapI, get_concat, set_concat, Int.toNat_natCast, Int.toNat_zero, List.nil_append, Nat.mul_one, decide_eq_true, decide_eq_false, Int.reduceLE, Int.reduceLT, Int.reduceNeg, Bool.false_or, Bool.true_or, Bool.or_false, Bool.or_true, wrapU, Int.reduceAdd, Int.reduceSub, Int.reduceMul, List.append_assoc, List.length_append, get_mid, get_mid0, set_mid, set_mid0, List.length_set, List.length_cons, List.length_nil, List.cons_append, List.getElem?_append_left, List.set_append_left, get_at, get_at0, set_at, set_at0, List.getElem?_set_self, List.getElem?_set_ne, g7]
        exact ⟨_, .nils, rfl, by omega, km.set (by omega) _, ⟨by rw [List.getElem?_set_self l7]; rfl, Sl.nil, fun h => by simp at h⟩, .inl rfl⟩
      · simp (disch := first | assumption | omega | (simp only [List.length_cons, List.length_nil, List.length_set, List.length_append] <;> omega) | (simp only [get_mid, get_mid0, List.cons_append, List.append_assoc, List.getElem?_cons_zero, List.getElem?_cons_succ])) only [ek, ↓evW, ↓evQ, evB, evS, evL, List.map, AV.cells, List.all, AV.one, Bool.and_true, Bool.true_and, if_true, ↓thenQ_normal, ↓thenQ_exit, ↓thenQ_ret, ↓blockQ_normal, ↓blockQ_ret, ↓blockQ_exit, ↓CW_true, ↓CW_false, CW_true, CW_false, condT, condF, RQ_some, tupA_one, tupA_two, tupA_nil, Nat.reduceSub, Nat.reduceAdd, Nat.reduceMul, Nat.zero_add, Nat.add_zero, Nat.reduceLeDiff, Nat.reduceEqDiff, eqV, eqAll, fillA, and_self, and_true, true_and, Nat.le_refl, Bool.not_true, Bool.not_false, Bool.false_xor, Bool.true_xor, cond_true, cond_false, List.replicate, if_false, reduceIte, resAll, resA, ne_eq, decide_not, decide_true, decide_false, Int.reduceEq, Bool.not_true, Bool.not_false, not_true_eq_false, not_false_eq_true, cond_bool, cond_int, beq_self_eq_true, Int.reduceBEq, Bool.and_self, Bool.and_false, Bool.false_and, Bool.xor_false, Bool.xor_true, loadN_ldC, ldC_none, ldC_somes, stC_aggs, splice, storeN_stC, stC_int, stC_bool, stC_ptr, stC_nilp, stC_sl, stC_nils, getC_gcO, gcO_cells, W_draw_eq, ↓W_scope, ev_clear, evT, evF, evX, evM, ↓exitQ_normal, ↓exitQ_ret, ↓exitQ_exit, saA_self, saO_self, if_pos, if_neg, wrapI, get_concat, set_concat, Int.toNat_natCast, Int.toNat_zero, List.nil_append, Nat.mul_one, decide_eq_true, decide_eq_false, Int.reduceLE, Int.reduceLT, Int.reduceNeg, Bool.false_or, Bool.true_or, Bool.or_false, Bool.or_true, wrapU, Int.reduceAdd, Int.reduceSub, Int.reduceMul, List.append_assoc, List.length_append, get_mid, get_mid0, set_mid, set_mid0, List.length_set, List.length_cons, List.length_nil, List.cons_append, List.getElem?_append_left, List.set_append_left, get_at, get_at0, set_at, set_at0, List.getElem?_set_self, List.getElem?_set_ne, g7]
        exact ⟨_, .sl q o 0 cc, rfl, by omega, km.set (by omega) _, ⟨by rw [List.getElem?_set_self l7]; rfl, ⟨rfl, .inr ⟨_, _, _, rfl, fun h => absurd h (Nat.lt_irrefl _)⟩⟩, fun h => by simp at h⟩, .inr ⟨_, _, _, _, rfl, hqm⟩⟩
    · simp (disch := first | assumption | omega | (simp only [List.length_cons, List.length_nil, List.length_set, List.length_append] <;> omega) | (simp only [get_mid, get_mid0, List.cons_append, List.append_assoc, List.getElem?_cons_zero, List.getElem?_cons_succ])) only [ek, ↓evW, ↓evQ, evB, evS, evL, List.map, AV.cells, List.all, AV.one, Bool.and_true, Bool.true_and, if_true, ↓thenQ_normal, ↓thenQ_exit, ↓thenQ_ret, ↓blockQ_normal, ↓blockQ_ret, ↓blockQ_exit, ↓CW_true, ↓CW_false, CW_true, CW_false, condT, condF, RQ_some, tupA_one, tupA_two, tupA_nil, Nat.reduceSub, Nat.reduceAdd, Nat.reduceMul, Nat.zero_add, Nat.add_zero, Nat.reduceLeDiff, Nat.reduceEqDiff, eqV, eqAll, fillA, and_self, and_true, true_and, Nat.le_refl, Bool.not_true, Bool.not_false, Bool.false_xor, Bool.true_xor, cond_true, cond_false, List.replicate, if_false, reduceIte, resAll, resA, ne_eq, decide_not, decide_true, decide_false, Int.reduceEq, Bool.not_true, Bool.not_false, not_true_eq_false, not_false_eq_true, cond_bool, cond_int, beq_self_eq_true, Int.reduceBEq, Bool.and_self, Bool.and_false, Bool.false_and, Bool.xor_false, Bool.xor_true, loadN_ldC, ldC_none, ldC_somes, stC_aggs, splice, storeN_stC, stC_int, stC_bool, stC_ptr, stC_nilp, stC_sl, stC_nils, getC_gcO, gcO_cells, W_draw_eq, ↓W_scope, ev_clear, evT, evF, evX, evM, ↓exitQ_normal, ↓exitQ_ret, ↓exitQ_exit, saA_self, saO_self, if_pos, if_neg, wrapI, get_concat, set_concat, Int.toNat_natCast, Int.toNat_zero, List.nil_append, Nat.mul_one, decide_eq_true, decide_eq_false, Int.reduceLE, Int.reduceLT, Int.reduceNeg, Bool.false_or, Bool.true_or, Bool.or_false, Bool.or_true, wrapU, Int.reduceAdd, Int.reduceSub, Int.reduceMul, List.append_assoc, List.length_append, get_mid, get_mid0, set_mid, set_mid0, List.length_set, List.length_cons, List.length_nil, List.cons_append, List.getElem?_append_left, List.set_append_left, get_at, get_at0, set_at, set_at0, List.getElem?_set_self, List.getElem?_set_ne, a95]
      have hkq : Keep (m1.take (m.length + 8)) m1 := ⟨by rw [List.length_take]; omega, fun i hi => by
        rw [List.length_take] at hi
        rw [List.getElem?_take, if_pos (by omega)]⟩
      refine OK_fn (delete_run hkq (by rw [List.length_take]; omega) hq1 hn) ?_
      rintro w2 m2 ⟨k2, sl2, fr2, nx2⟩
      have hlt : (m1.take (m.length + 8)).length = m.length + 8 := by rw [List.length_take]; omega
      have hg2 : m2[m.length + 7]? = some (.cells 12 false (layC c p ⟨1, 0, 0, 0, []⟩ .nils)) := by
        rw [k2.2 _ (by omega), List.getElem?_take, if_pos (by omega)]; exact g7
      have l2 : m.length + 7 < m2.length := (List.getElem?_eq_some_iff.1 hg2).1
      have km2 : Keep m m2 := ⟨by have := k2.1; omega, fun i hi => by rw [k2.2 i (by omega), List.getElem?_take, if_pos (by omega), km.2 i hi]⟩
      have nb : ∀ ro L, m2[m.length + 7]? ≠ some (.cells 1 ro L) := fun ro L h => by rw [hg2] at h; cases h
      rw [hlt] at fr2
      have hw2 : w2 = .nils ∨ ∃ q o nn, w2 = .sl q o nn none := by
        rcases nx2 with h | ⟨q, o, nn, l, h, _⟩
        · exact .inl h
        · exact .inr ⟨q, o, nn, h⟩
      have hfr2 : Fr m.length w2 := by
        rcases fr2 with h | ⟨q, o, nn, cc, h, h'⟩
        · exact .inl h
        · exact .inr ⟨q, o, nn, cc, h, by omega⟩
      have hsl := Sl.put sl2.ro nb
      have hnx := fun C => Nx.put nx2 nb C
      simp only [layC, rgC, cfC, List.cons_append, List.nil_append] at hg2
      rcases hw2 with rfl | ⟨q2, o2, nn2, rfl⟩
      · simp (disch := first | assumption | omega | (simp only [List.length_cons, List.length_nil, List.length_set, List.length_append] <;> omega) | (simp only [get_mid, get_mid0, List.cons_append, List.append_assoc, List.getElem?_cons_zero, List.getElem?_cons_succ])) only [ek, ↓evW, ↓evQ, evB, evS, evL, List.map, AV.cells, List.all, AV.one, Bool.and_true, Bool.true_and, if_true, ↓thenQ_normal, ↓thenQ_exit, ↓thenQ_ret, ↓blockQ_normal, ↓blockQ_ret, ↓blockQ_exit, ↓CW_true, ↓CW_false, CW_true, CW_false, condT, condF, RQ_some, tupA_one, tupA_two, tupA_nil, Nat.reduceSub, Nat.reduceAdd, Nat.reduceMul, Nat.zero_add, Nat.add_zero, Nat.reduceLeDiff, Nat.reduceEqDiff, eqV, eqAll, fillA, and_self, and_true, true_and, Nat.le_refl, Bool.not_true, Bool.not_false, Bool.false_xor, Bool.true_xor, cond_true, cond_false, List.replicate, if_false, reduceIte, resAll, resA, ne_eq, decide_not, decide_true, decide_false, Int.reduceEq, Bool.not_true, Bool.not_false, not_true_eq_false, not_false_eq_true, cond_bool, cond_int, beq_self_eq_true, Int.reduceBEq, Bool.and_self, Bool.and_false, Bool.false_and, Bool.xor_false, Bool.xor_true, loadN_ldC, ldC_none, ldC_somes, stC_aggs, splice, storeN_stC, stC_int, stC_bool, stC_ptr, stC_nilp, stC_sl, stC_nils, getC_gcO, gcO_cells, W_draw_eq, ↓W_scope, ev_clear, evT, evF, evX, evM, ↓exitQ_normal, ↓exitQ_ret, ↓exitQ_exit, saA_self, saO_self, if_pos, if_neg, wrapI, get_concat, set_concat, Int.toNat_natCast, Int.toNat_zero, List.nil_append, Nat.mul_one, decide_eq_true, decide_eq_false, Int.reduceLE, Int.reduceLT, Int.reduceNeg, Bool.false_or, Bool.true_or, Bool.or_false, Bool.or_true, wrapU, Int.reduceAdd, Int.reduceSub, Int.reduceMul, List.append_assoc, List.length_append, get_mid, get_mid0, set_mid, set_mid0, List.length_set, List.length_cons, List.length_nil, List.cons_append, List.getElem?_append_left, List.set_append_left, get_at, get_at0, set_at, set_at0, List.getElem?_set_self, List.getElem?_set_ne, hg2]
        exact ⟨_, _, rfl, by omega, km2.set (by omega) _, ⟨by rw [List.getElem?_set_self l2]; rfl, hsl _, fun _ => hnx _⟩, hfr2⟩
      · simp (disch := first | assumption | omega | (simp only [List.length_cons, List.length_nil, List.length_set, List.length_append] <;> omega) | (simp only [get_mid, get_mid0, List.cons_append, List.append_assoc, List.getElem?_cons_zero, List.getElem?_cons_succ])) only [ek, ↓evW, ↓evQ, evB, evS, evL, List.map, AV.cells, List.all, AV.one, Bool.and_true, Bool.true_and, if_true, ↓thenQ_normal, ↓thenQ_exit, ↓thenQ_ret, ↓blockQ_normal, ↓blockQ_ret, ↓blockQ_exit, ↓CW_true, ↓CW_false, CW_true, CW_false, condT, condF, RQ_some, tupA_one, tupA_two, tupA_nil, Nat.reduceSub, Nat.reduceAdd, Nat.reduceMul, Nat.zero_add, Nat.add_zero, Nat.reduceLeDiff, Nat.reduceEqDiff, eqV, eqAll, fillA, and_self, and_true, true_and, Nat.le_refl, Bool.not_true, Bool.not_false, Bool.false_xor, Bool.true_xor, cond_true, cond_false, List.replicate, if_false, reduceIte, resAll, resA, ne_eq, decide_not, decide_true, decide_false, Int.reduceEq, Bool.not_true, Bool.not_false, not_true_eq_false, not_false_eq_true, cond_bool, cond_int, beq_self_eq_true, Int.reduceBEq, Bool.and_self, Bool.and_false, Bool.false_and, Bool.xor_false, Bool.xor_true, loadN_ldC, ldC_none, ldC_somes, stC_aggs, splice, storeN_stC, stC_int, stC_bool, stC_ptr, stC_nilp, stC_sl, stC_nils, getC_gcO, gcO_cells, W_draw_eq, ↓W_scope, ev_clear, evT, evF, evX, evM, ↓exitQ_normal, ↓exitQ_ret, ↓exitQ_exit, saA_self, saO_self, if_pos, if_neg, wrapI, get_concat, set_concat, Int.toNat_natCast, Int.toNat_zero, List.nil_append, Nat.mul_one, decide_eq_true, decide_eq_false, Int.reduceLE, Int.reduceLT, Int.reduceNeg, Bool.false_or, Bool.true_or, Bool.or_false, Bool.or_true, wrapU, Int.reduceAdd, Int.reduceSub, Int.reduceMul, List.append_assoc, List.length_append, get_mid, get_mid0, set_mid, set_mid0, List.length_set, List.length_cons, List.length_nil, List.cons_append, List.getElem?_append_left, List.set_append_left, get_at, get_at0, set_at, set_at0, List.getElem?_set_self, List.getElem?_set_ne, hg2]
        exact ⟨_, _, rfl, by omega, km2.set (by omega) _, ⟨by rw [List.getElem?_set_self l2]; rfl, hsl _, fun _ => hnx _⟩, hfr2⟩
  · have hnl : newL c p xs = ⟨0, 0, 0, 0, []⟩ := if_neg h1
    unfold NlP
    rw [hnl]
    rw [fromA, if_neg h1] at hfr
    simp only [rgC, cfC, List.cons_append, List.nil_append, List.append_assoc] at hfr
    refine Fn_of rfl ?_
    simp (disch := first | assumption | omega | (simp only [List.length_cons, List.length_nil, List.length_set, List.length_append] <;> omega) | (simp only [get_mid, get_mid0, List.cons_append, List.append_assoc, List.getElem?_cons_zero, List.getElem?_cons_succ])) only [put_NewLay, ek, ↓evW, ↓evQ, evB, evS, evL, List.map, AV.cells, List.all, AV.one, Bool.and_true, Bool.true_and, if_true, ↓thenQ_normal, ↓thenQ_exit, ↓thenQ_ret, ↓blockQ_normal, ↓blockQ_ret, ↓blockQ_exit, ↓CW_true, ↓CW_false, CW_true, CW_false, condT, condF, RQ_some, tupA_one, tupA_two, tupA_nil, Nat.reduceSub, Nat.reduceAdd, Nat.reduceMul, Nat.zero_add, Nat.add_zero, Nat.reduceLeDiff, Nat.reduceEqDiff, eqV, eqAll, fillA, and_self, and_true, true_and, Nat.le_refl, Bool.not_true, Bool.not_false, Bool.false_xor, Bool.true_xor, cond_true, cond_false, List.replicate, if_false, reduceIte, resAll, resA, ne_eq, decide_not, decide_true, decide_false, Int.reduceEq, Bool.not_true, Bool.not_false, not_true_eq_false, not_false_eq_true, cond_bool, cond_int, beq_self_eq_true, Int.reduceBEq, Bool.and_self, Bool.and_false, Bool.false_and, Bool.xor_false, Bool.xor_true, loadN_ldC, ldC_none, ldC_somes, stC_aggs, splice, storeN_stC, stC_int, stC_bool, stC_ptr, stC_nilp, stC_sl, stC_nils, getC_gcO, gcO_cells, W_draw_eq, ↓W_scope, ev_clear, evT, evF, evX, evM, ↓exitQ_normal, ↓exitQ_ret, ↓exitQ_exit, saA_self, saO_self, if_pos, if_neg, wrapI, get_concat, set_concat, Int.toNat_natCast, Int.toNat_zero, List.nil_append, Nat.mul_one, decide_eq_true, decide_eq_false, Int.reduceLE, Int.reduceLT, Int.reduceNeg, Bool.false_or, Bool.true_or, Bool.or_false, Bool.or_true, wrapU, Int.reduceAdd, Int.reduceSub, Int.reduceMul, List.append_assoc, List.length_append, get_mid, get_mid0, set_mid, set_mid0, List.length_set, List.length_cons, List.length_nil, List.cons_append, List.getElem?_append_left, List.set_append_left, get_at, get_at0, set_at, set_at0, List.getElem?_set_self, List.getElem?_set_ne, cfC, a206, hfr, List.set_set, List.drop_succ_cons, List.drop_zero, List.drop_nil, List.append_nil]
    exact ⟨_, .nils, rfl, by omega, .app _ _, ⟨by rw [get_mid]; rfl, Sl.nil, fun h => by simp at h⟩, .inl rfl⟩
theorem lhands_run {m : MM} {xj : Nat} {c : Cf} {p : Int} {s : LS} {lv : AV} (hx : LM m xj c p s lv) (hl : s.ls.length ≤ 100000) : Fn Gpo put_Lay_Hands [.ptr xj 0] m (ClP m s.ls) := by
  have a208 : assoc Gpo 208 = some c_slices_Clone_int := rfl
  have he : c_slices_Clone_int (X := Ob) = amFunc [] slices_Clone_int := rfl
  generalize Gpo = G at a208 ⊢
  have hg := hx.get
  simp only [layC, rgC, cfC, List.cons_append, List.nil_append] at hg
  refine Fn_of rfl ?_
  simp (disch := first | assumption | omega | (simp only [List.length_cons, List.length_nil, List.length_set, List.length_append] <;> omega) | (simp only [get_mid, get_mid0, List.cons_append, List.append_assoc, List.getElem?_cons_zero, List.getElem?_cons_succ])) only [put_Lay_Hands, ek, ↓evW, ↓evQ, evB, evS, evL, List.map, AV.cells, List.all, AV.one, Bool.and_true, Bool.true_and, if_true, ↓thenQ_normal, ↓thenQ_exit, ↓thenQ_ret, ↓blockQ_normal, ↓blockQ_ret, ↓blockQ_exit, ↓CW_true, ↓CW_false, CW_true, CW_false, condT, condF, RQ_some, tupA_one, tupA_two, tupA_nil, Nat.reduceSub, Nat.reduceAdd, Nat.reduceMul, Nat.zero_add, Nat.add_zero, Nat.reduceLeDiff, Nat.reduceEqDiff, eqV, eqAll, fillA, and_self, and_true, true_and, Nat.le_refl, Bool.not_true, Bool.not_false, Bool.false_xor, Bool.true_xor, cond_true, cond_false, List.replicate, if_false, reduceIte, resAll, resA, ne_eq, decide_not, decide_true, decide_false, Int.reduceEq, Bool.not_true, Bool.not_false, not_true_eq_false, not_false_eq_true, cond_bool, cond_int, beq_self_eq_true, Int.reduceBEq, Bool.and_self, Bool.and_false, Bool.false_and, Bool.xor_false, Bool.xor_true, loadN_ldC, ldC_none, ldC_somes, stC_aggs, splice, storeN_stC, stC_int, stC_bool, stC_ptr, stC_nilp, stC_sl, stC_nils, getC_gcO, gcO_cells, W_draw_eq, ↓W_scope, ev_clear, evT, evF, evX, evM, ↓exitQ_normal, ↓exitQ_ret, ↓exitQ_exit, saA_self, saO_self, if_pos, if_neg, wrapI, get_concat, set_concat, Int.toNat_natCast, Int.toNat_zero, List.nil_append, Nat.mul_one, decide_eq_true, decide_eq_false, Int.reduceLE, Int.reduceLT, Int.reduceNeg, Bool.false_or, Bool.true_or, Bool.or_false, Bool.or_true, wrapU, Int.reduceAdd, Int.reduceSub, Int.reduceMul, List.append_assoc, List.length_append, get_mid, get_mid0, set_mid, set_mid0, List.length_set, List.length_cons, List.length_nil, List.cons_append, List.getElem?_append_left, List.set_append_left, get_at, get_at0, set_at, set_at0, List.getElem?_set_self, List.getElem?_set_ne, hg, a208, he]
  refine OK_fn (clone_run hx.l hl) ?_
  intro r m1 hc
  simp (disch := first | assumption | omega | (simp only [List.length_cons, List.length_nil, List.length_set, List.length_append] <;> omega) | (simp only [get_mid, get_mid0, List.cons_append, List.append_assoc, List.getElem?_cons_zero, List.getElem?_cons_succ])) only [ek, ↓evW, ↓evQ, evB, evS, evL, List.map, AV.cells, List.all, AV.one, Bool.and_true, Bool.true_and, if_true, ↓thenQ_normal, ↓thenQ_exit, ↓thenQ_ret, ↓blockQ_normal, ↓blockQ_ret, ↓blockQ_exit, ↓CW_true, ↓CW_false, CW_true, CW_false, condT, condF, RQ_some, tupA_one, tupA_two, tupA_nil, Nat.reduceSub, Nat.reduceAdd, Nat.reduceMul, Nat.zero_add, Nat.add_zero, Nat.reduceLeDiff, Nat.reduceEqDiff, eqV, eqAll, fillA, and_self, and_true, true_and, Nat.le_refl, Bool.not_true, Bool.not_false, Bool.false_xor, Bool.true_xor, cond_true, cond_false, List.replicate, if_false, reduceIte, resAll, resA, ne_eq, decide_not, decide_true, decide_false, Int.reduceEq, Bool.not_true, Bool.not_false, not_true_eq_false, not_false_eq_true, cond_bool, cond_int, beq_self_eq_true, Int.reduceBEq, Bool.and_self, Bool.and_false, Bool.false_and, Bool.xor_false, Bool.xor_true, loadN_ldC, ldC_none, ldC_somes, stC_aggs, splice, storeN_stC, stC_int, stC_bool, stC_ptr, stC_nilp, stC_sl, stC_nils, getC_gcO, gcO_cells, W_draw_eq, ↓W_scope, ev_clear, evT, evF, evX, evM, ↓exitQ_normal, ↓exitQ_ret, ↓exitQ_exit, saA_self, saO_self, if_pos, if_neg, wrapI, get_concat, set_concat, Int.toNat_natCast, Int.toNat_zero, List.nil_append, Nat.mul_one, decide_eq_true, decide_eq_false, Int.reduceLE, Int.reduceLT, Int.reduceNeg, Bool.false_or, Bool.true_or, Bool.or_false, Bool.or_true, wrapU, Int.reduceAdd, Int.reduceSub, Int.reduceMul, List.append_assoc, List.length_append, get_mid, get_mid0, set_mid, set_mid0, List.length_set, List.length_cons, List.length_nil, List.cons_append, List.getElem?_append_left, List.set_append_left, get_at, get_at0, set_at, set_at0, List.getElem?_set_self, List.getElem?_set_ne]
  exact hc
end Go.Am.F09
end
section
namespace Go.Am.F09
open Go.Am.F06 Go.Am.F10
theorem LOk.step {c : Cf} {p : Int} {s : LS} {xs : List Int} (h : LOk c p s) (hx : s.a = 0 ∨ OkL c xs) : LOk c p (stepL c p xs s).1 := by
  obtain ⟨h1, h2, h3⟩ := h
  rcases hx with h0 | hx
  · have : stepL c p xs s = (s, xs) := if_pos h0
    rw [this]; exact ⟨h1, h2, h3⟩
  have hg := getD_64 hx.2 (wrdN c p)
  obtain ⟨a, w, k, n, ls⟩ := s
  simp only at h1 h2 h3
  by_cases h0 : a = 0
  · have : stepL c p xs ⟨a, w, k, n, ls⟩ = (⟨a, w, k, n, ls⟩, xs) := if_pos h0
    rw [this]; exact ⟨h1, h2, h3⟩
  by_cases hz : ls.length = 0
  · have : stepL c p xs ⟨a, w, k, n, ls⟩ = (⟨0, w, k, n, ls⟩, xs) := by simp only [stepL, if_neg h0, if_pos hz]
    rw [this]; exact ⟨h1, .inl rfl, h3⟩
  rcases h2 with h2 | ⟨hp, h2⟩
  · exact absurd h2 h0
  have hrb := room_b (c := c) (w := xs.getD (wrdN c p) 0) (len := ls.length)
  rcases h2 with rfl | ⟨rfl, k0, k1, k2⟩ | ⟨rfl, n0, n1⟩
  · have : stepL c p xs ⟨1, w, k, n, ls⟩ = (⟨if roomN c (xs.getD (wrdN c p) 0) ls.length = 0 then 0 else 2, xs.getD (wrdN c p) 0, 0, roomN c (xs.getD (wrdN c p) 0) ls.length, ls⟩, xs) := by simp only [stepL, if_neg h0, if_neg hz, if_true]
    rw [this]
    by_cases hr : roomN c (xs.getD (wrdN c p) 0) ls.length = 0
    · rw [if_pos hr]; exact ⟨hg, .inl rfl, h3⟩
    · rw [if_neg hr]; exact ⟨hg, .inr ⟨hp, .inr (.inl ⟨rfl, by simp, by simp only; omega, hrb.2⟩)⟩, h3⟩
  · have : stepL c p xs ⟨2, w, k, n, ls⟩ = (⟨if k + 1 = n then 3 else 2, w, k + 1, n, ls⟩, xs.set (pslA c p w k).toNat (IntKind.u64.wrap (ls.getD k.toNat 0))) := by simp only [stepL, if_neg h0, if_neg hz, if_neg (show ¬ ((2 : Int) = 1) by decide), if_true]
    rw [this]
    by_cases hr : k + 1 = n
    · rw [if_pos hr]; exact ⟨h1, .inr ⟨hp, .inr (.inr ⟨rfl, by simp only; omega, k2⟩)⟩, h3⟩
    · rw [if_neg hr]; exact ⟨h1, .inr ⟨hp, .inr (.inl ⟨rfl, by simp only; omega, by simp only; omega, k2⟩)⟩, h3⟩
  · by_cases heq : xs.getD (wrdN c p) 0 = w
    · have : stepL c p xs ⟨3, w, k, n, ls⟩ = (⟨0, w, k, n, ls.drop n.toNat⟩, xs.set (wrdN c p) (growW w n)) := by simp only [stepL, if_neg h0, if_neg hz, if_neg (show ¬ ((3 : Int) = 1) by decide), if_neg (show ¬ ((3 : Int) = 2) by decide), if_pos heq]
      rw [this]; exact ⟨h1, .inl rfl, by simp only [List.length_drop]; omega⟩
    · have : stepL c p xs ⟨3, w, k, n, ls⟩ = (⟨1, w, k, n, ls⟩, xs) := by simp only [stepL, if_neg h0, if_neg hz, if_neg (show ¬ ((3 : Int) = 1) by decide), if_neg (show ¬ ((3 : Int) = 2) by decide), if_neg heq]
      rw [this]; exact ⟨h1, .inr ⟨hp, .inl rfl⟩, h3⟩
structure LI (c : Cf) (p w0 : Int) (own : List Int) (t : Nat) (s : LS) (xs : List Int) : Prop where
  ok : OkL c xs
  w : xs.getD (wrdN c p) 0 = w0
  ls : s.ls = own
  st : (t = 0 ∧ s.a = 1) ∨ (∃ i : Nat, t = i + 1 ∧ s.w = w0 ∧ s.n = own.length ∧ s.k = i ∧ (∀ k, k < i → slV c p w0 xs k = own.getD k 0) ∧ ((s.a = 2 ∧ i < own.length) ∨ (s.a = 3 ∧ i = own.length)))
theorem LI.ne {c : Cf} {p w0 : Int} {own : List Int} {t : Nat} {s : LS} {xs : List Int} (h : LI c p w0 own t s xs) : s.a ≠ 0 ∧ t ≤ own.length + 1 := by
  rcases h.st with ⟨h1, h2⟩ | ⟨i, h1, _, _, _, _, h2 | h2⟩ <;> omega
theorem wrap_id {x : Int} (h0 : 0 ≤ x) (h1 : x < 9223372036854775808) : IntKind.i64.wrap (IntKind.u64.wrap x) = x := by
  rw [wrapU h0 (by omega)]; exact wrapI (by omega) (by omega)
theorem LI.step {c : Cf} {p h : Int} {own : List Int} {t : Nat} {s : LS} {xs : List Int} (hI : LI c p (pk h h) own t s xs) (hp : thereP c p) (h0 : 0 ≤ h) (h1 : h < 4294967296) (hpos : 0 < own.length) (hq : (own.length : Int) ≤ c.q) (hown : ∀ x, x ∈ own → 0 ≤ x ∧ x < 9223372036854775808) :
    ((stepL c p xs s).1.a ≠ 0 ∧ LI c p (pk h h) own (t + 1) (stepL c p xs s).1 (stepL c p xs s).2) ∨
    ((stepL c p xs s).1.a = 0 ∧ t = own.length + 1 ∧ (stepL c p xs s).1.ls = [] ∧ OkL c (stepL c p xs s).2 ∧ ringL c p (stepL c p xs s).2 = own) := by
  have hb := there_bounds hp
  have hroom : roomP c.q := hp.1.2.1
  have hsz : sz (pk h h) = 0 := by unfold sz; rw [hd_pk h0 h1, tl_pk h0 h1]; omega
  have hw64 : W64 (pk h h) := by unfold W64 pk; omega
  obtain ⟨ok, hw, hls, hst⟩ := hI
  have hxl := ok.1
  have hwb := addr_b hp (i := 0) (by omega) (by omega)
  have hwl : wrdN c p < xs.length := by unfold wrdN; omega
  obtain ⟨a, w, k, n, ls⟩ := s
  simp only at hls
  subst hls
  have hz : ¬ (ls.length = 0) := by omega
  rcases hst with ⟨rfl, ha⟩ | ⟨i, rfl, e1, e2, e3, e4, e5⟩
  · simp only at ha
    subst ha
    have hrm : roomN c (pk h h) ls.length = ls.length := by unfold roomN; rw [hsz, if_neg (by omega)]; split <;> omega
    have : stepL c p xs ⟨1, w, k, n, ls⟩ = (⟨2, pk h h, 0, ls.length, ls⟩, xs) := by simp only [stepL, if_neg (show ¬ ((1 : Int) = 0) by decide), if_neg hz, if_true, hw, hrm, if_neg (show ¬ ((ls.length : Int) = 0) by omega)]
    rw [this]
    exact .inl ⟨by simp, ok, hw, rfl, .inr ⟨0, rfl, rfl, rfl, rfl, fun k hk => by omega, .inl ⟨rfl, hpos⟩⟩⟩
  · simp only at e1 e2 e3 e5
    subst e1; subst e2; subst e3
    rcases e5 with ⟨rfl, hi⟩ | ⟨rfl, hi⟩
    · obtain ⟨x, hx⟩ : ∃ x, ls[i]? = some x := ⟨_, List.getElem?_eq_getElem hi⟩
      have hxb := hown x (List.mem_of_getElem? hx)
      have hgd : ls.getD i 0 = x := by rw [List.getD_eq_getElem?_getD, hx]; rfl
      have hps : pslA c p (pk h h) i = slotA c p ((hd (pk h h) + (i : Int)) % 4294967296) := by unfold pslA; rw [tl_pk h0 h1, hd_pk h0 h1]
      have hsb := slot_b (i := (hd (pk h h) + (i : Int)) % 4294967296) hp (by omega)
      have : stepL c p xs ⟨2, pk h h, i, ls.length, ls⟩ = (⟨if (i : Int) + 1 = ls.length then 3 else 2, pk h h, i + 1, ls.length, ls⟩, xs.set (slotA c p ((hd (pk h h) + (i : Int)) % 4294967296)).toNat (IntKind.u64.wrap x)) := by
        simp only [stepL, if_neg (show ¬ ((2 : Int) = 0) by decide), if_neg hz, if_neg (show ¬ ((2 : Int) = 1) by decide), if_true, hps, Int.toNat_natCast, hgd]
      rw [this]
      refine .inl ⟨by simp only; split <;> omega, ok.set _ (wrap64_b _), by rw [getD_set_ne (slot_word hp)]; exact hw, rfl, .inr ⟨i + 1, rfl, rfl, rfl, by simp, fun k hk => ?_, ?_⟩⟩
      · unfold slV
        by_cases hki : k = i
        · subst hki
          rw [getD_set_self (by omega), wrap_id hxb.1 hxb.2, hgd]
        · rw [getD_set_ne (slot_ne hp (by omega) (by omega) (fun hh => room_mod (a := hd (pk h h)) (k := k) (n := i) hroom (by omega) (by omega) hh.symm))]
          exact e4 k (by omega)
      · by_cases hq2 : (i : Int) + 1 = ls.length
        · simp only [if_pos hq2]; exact .inr ⟨trivial, by omega⟩
        · simp only [if_neg hq2]; exact .inl ⟨trivial, by omega⟩
    · have : stepL c p xs ⟨3, pk h h, i, ls.length, ls⟩ = (⟨0, pk h h, i, ls.length, ls.drop ls.length⟩, xs.set (wrdN c p) (growW (pk h h) ls.length)) := by
        simp only [stepL, if_neg (show ¬ ((3 : Int) = 0) by decide), if_neg hz, if_neg (show ¬ ((3 : Int) = 1) by decide), if_neg (show ¬ ((3 : Int) = 2) by decide), if_pos hw, Int.toNat_natCast]
      rw [this]
      have hg : growW (pk h h) ls.length = pk h ((h + ls.length) % 4294967296) := by unfold growW; rw [hd_pk h0 h1, tl_pk h0 h1]
      have hgs : sz (growW (pk h h) ls.length) = ls.length := by
        rw [hg]; unfold sz; rw [hd_pk (by omega) (by omega), tl_pk (by omega) (by omega)]; omega
      refine .inr ⟨rfl, by omega, by simp, ok.set _ (grow_64 hw64 _), ?_⟩
      refine ringL_eq hp (getD_set_self hwl) (by rw [hgs]; omega) (by rw [hgs]) fun k hk => ?_
      have := e4 k (by omega)
      unfold slV at this
      rw [hd_pk h0 h1] at this
      rw [ringAt, hg, hd_pk (by omega) (by omega), getD_set_ne (slot_word hp).symm, this]
end Go.Am.F09
end
section
namespace Go.Am.F09
open Go.Am.F06 Go.Am.F10
theorem flat_int (ws : List {z : Int // z < 9223372036854775808}) : ws.flatMap (fun x => [AV.int .i64 x.1]) = iC (ws.map Subtype.val) := by
  induction ws with
  | nil => rfl
  | cons a ws ih => rw [List.flatMap_cons, ih]; rfl
theorem int_arg {X : Type} {m : Mem X} {i len cap : Nat} (hl : 0 < len → ∃ l, m[i]? = some (.cells 1 true l) ∧ l.length = len * 1 ∧ ∀ k, k < len → ∃ z : Int, (l.drop (k * 1)).take 1 = [.int .i64 z] ∧ z < 9223372036854775808) :
    ∃ xs : List Int, SI m false xs (.sl i 0 len (some cap)) ∧ ∀ x, x ∈ xs → x < 9223372036854775808 := by
  obtain ⟨ws, h⟩ := rows_arg (f := fun x : {z : Int // z < 9223372036854775808} => [AV.int .i64 x.1]) (sz := 1) (m := m) (i := i) (len := len) (cap := cap) (fun _ => rfl) (fun h0 => by
    obtain ⟨l, h1, h2, h3⟩ := hl h0
    exact ⟨l, h1, h2, fun k hk => by obtain ⟨z, e, b⟩ := h3 k hk; exact ⟨⟨z, b⟩, e⟩⟩)
  rw [flat_int] at h
  refine ⟨ws.map Subtype.val, by show Sl m false _ (ws.map Subtype.val).length _ _; rw [List.length_map]; exact h, fun x hx => ?_⟩
  obtain ⟨a, _, rfl⟩ := List.mem_map.1 hx
  exact a.2
end Go.Am.F09
end
section
namespace Go.Am.F09
open Go.Am.F06 Go.Am.F10
def rlC (c : Cf) (p : Int) (s : LS) (lv : AV) : List AV := cfC c ++ [.int .i64 p, lv, .int .i64 s.a, .int .u64 s.w, .int .i64 s.n, .int .i64 s.k]
structure LNx (lo hi : Nat) (m : MM) (ls : List Int) (lv : AV) : Prop where
  sl : SI m false ls lv
  nx : 0 < ls.length → Nx m lv
  no : ∀ b, lo ≤ b → b < hi → ∀ ro L, m[b]? ≠ some (.cells 1 ro L)
theorem LNx.set {lo hi : Nat} {m : MM} {ls : List Int} {lv : AV} (h : LNx lo hi m ls lv) {a : Nat} (h1 : lo ≤ a) (h2 : a < hi) {C : Chunk Ob} (hC : ∀ ro L, C ≠ .cells 1 ro L) : LNx lo hi (m.set a C) ls lv :=
  ⟨Sl.put h.sl (h.no a h1 h2) C, fun h0 => (h.nx h0).put (h.no a h1 h2) C, (SLN.set (wr := false) (n := ls.length) (l := iC ls) (v := lv) ⟨h.sl, h.no⟩ h1 h2 hC).no⟩
def RyP (m : MM) (c : Cf) (p : Int) (x : LS × List Int) (o : Int) (r : AV) (m' : MM) : Prop := Keep m m' ∧ ∃ lv' v', r = .tup [.agg (rlC c p x.1 lv'), .agg (memC v' o)] ∧ SI m' false x.1.ls lv' ∧ (0 < x.1.ls.length → Nx m' lv') ∧ SU m' false x.2 v'
def Grl2 : List (Nat × AFun Ob) := [(170, F10.c_ref09_Head), (171, F10.c_ref09_Tail), (172, F10.c_ref09_Word), (64, F06.c_ref06_Load), (173, F10.c_ref09_Size), (174, F10.c_ref09_Slot), (65, F06.c_ref06_Store), (175, F10.c_ref09_Pack), (66, F06.c_ref06_CAS)]
set_option maxHeartbeats 16000000 in
theorem rlstep1 {m : MM} {wr : Bool} {c : Cf} {p o : Int} {s : LS} {xs : List Int} {v lv : AV} (hs : SU m wr xs v) (hl : SI m false s.ls lv) (hnx : 0 < s.ls.length → Nx m lv) (hok : LOk c p s) (hx : OkL c xs) (ha : s.a = 1) (h0 : 0 < s.ls.length) :
    Fn Grl2 ref09_StepLay [.agg (rlC c p s lv), .agg (memC v o)] m (RyP m c p (stepL c p xs s) (IntKind.u64.wrap (o + 1))) := by
  have a172 : assoc Grl2 172 = some F10.c_ref09_Word := rfl
  have a64 : assoc Grl2 64 = some F06.c_ref06_Load := rfl
  have a173 : assoc Grl2 173 = some F10.c_ref09_Size := rfl
  generalize Grl2 = G at a172 a64 a173 ⊢
  have hone := slOne hs
  have hone2 := slOne hl
  simp only [AV.one] at hone hone2
  obtain ⟨a, w, k, n, ls⟩ := s
  simp only at ha hl hnx h0
  subst ha
  have hp : thereP c p := hok.a.elim (fun h => by simp at h) (·.1)
  have hll := hok.l
  simp only at hll
  have hb := there_bounds hp
  have hcn := cellsN_le c
  have hxl := hx.1
  have hlen := hl.len
  have ha0 := addr_b hp (i := 0) (by omega) (by omega)
  have hrw := fun m : MM => rword_eq m hp
  simp only [word_at hp, cfC] at hrw
  have hwn : ((wrdN c p : Nat) : Int) = addrA c p 0 := by unfold wrdN; omega
  have hrl := fun K : MM => rload_eq (hs.keep (Keep.app m K)) o (a := wrdN c p) (by omega)
  rw [hwn] at hrl
  have hg := getD_64 hx.2 (wrdN c p)
  have hlz : ¬ ((ls.length : Int) = 0) := by omega
  have hs1 : stepL c p xs ⟨1, w, k, n, ls⟩ = (⟨if roomN c (xs.getD (wrdN c p) 0) ls.length = 0 then 0 else 2, xs.getD (wrdN c p) 0, 0, roomN c (xs.getD (wrdN c p) 0) ls.length, ls⟩, xs) := by
    simp only [stepL, if_neg (show ¬ ((1 : Int) = 0) by decide), if_neg (show ¬ (ls.length = 0) by omega), if_true]
  rw [hs1]
  generalize xs.getD (wrdN c p) 0 = w' at hg hrl
  simp only [memC, List.append_assoc, List.cons_append, List.nil_append] at hrl
  have hz := fun m : MM => rsize_eq m hg
  have e0 : IntKind.u32.wrap c.q = c.q := by rw [wrap32]; omega
  have hz0 : 0 ≤ sz w' ∧ sz w' < 4294967296 := by unfold sz; omega
  have e1 : IntKind.i64.wrap (sz w') = sz w' := wrapI (by omega) (by omega)
  have e2 : IntKind.i64.wrap (c.q - sz w') = c.q - sz w' := wrapI (by omega) (by omega)
  have hl' := fun K : MM => hl.keep (Keep.app m K)
  have hnx' := fun (K : MM) h => (hnx h).keep (Keep.app m K)
  refine Fn_of rfl ?_
  rcases (show c.q ≤ sz w' ∨ (sz w' < c.q ∧ c.q - sz w' < (ls.length : Int)) ∨ (sz w' < c.q ∧ (ls.length : Int) ≤ c.q - sz w') by omega) with h | ⟨h, h'⟩ | ⟨h, h'⟩
  · have hroom : roomN c w' ls.length = 0 := if_pos h
    rw [hroom, if_pos rfl]
    simp (disch := first | assumption | omega | (simp only [List.length_cons, List.length_nil, List.length_set, List.length_append] <;> omega) | (simp only [get_mid, get_mid0, List.cons_append, List.append_assoc, List.getElem?_cons_zero, List.getElem?_cons_succ])) only [ref09_StepLay, ek, ↓evW, ↓evQ, evB, evS, evL, List.map, AV.cells, List.all, AV.one, Bool.and_true, Bool.true_and, if_true, ↓thenQ_normal, ↓thenQ_exit, ↓thenQ_ret, ↓blockQ_normal, ↓blockQ_ret, ↓blockQ_exit, ↓CW_true, ↓CW_false, CW_true, CW_false, condT, condF, RQ_some, tupA_one, tupA_two, tupA_nil, Nat.reduceSub, Nat.reduceAdd, Nat.reduceMul, Nat.zero_add, Nat.add_zero, Nat.reduceLeDiff, Nat.reduceEqDiff, eqV, eqAll, fillA, and_self, and_true, true_and, Nat.le_refl, Bool.not_true, Bool.not_false, Bool.false_xor, Bool.true_xor, cond_true, cond_false, List.replicate, if_false, reduceIte, resAll, resA, ne_eq, decide_not, decide_true, decide_false, Int.reduceEq, Bool.not_true, Bool.not_false, not_true_eq_false, not_false_eq_true, cond_bool, cond_int, beq_self_eq_true, Int.reduceBEq, Bool.and_self, Bool.and_false, Bool.false_and, Bool.xor_false, Bool.xor_true, loadN_ldC, ldC_none, ldC_somes, stC_aggs, splice, storeN_stC, stC_int, stC_bool, stC_ptr, stC_nilp, stC_sl, stC_nils, getC_gcO, gcO_cells, W_draw_eq, ↓W_scope, ev_clear, evT, evF, evX, evM, ↓exitQ_normal, ↓exitQ_ret, ↓exitQ_exit, saA_self, saO_self, if_pos, if_neg, wrapI, get_concat, set_concat, Int.toNat_natCast, Int.toNat_zero, List.nil_append, Nat.mul_one, decide_eq_true, decide_eq_false, Int.reduceLE, Int.reduceLT, Int.reduceNeg, Bool.false_or, Bool.true_or, Bool.or_false, Bool.or_true, wrapU, Int.reduceAdd, Int.reduceSub, Int.reduceMul, List.append_assoc, List.length_append, get_mid, get_mid0, set_mid, set_mid0, List.length_set, List.length_cons, List.length_nil, List.cons_append, List.getElem?_append_left, List.set_append_left, get_at, get_at0, set_at, set_at0, List.getElem?_set_self, List.getElem?_set_ne, rlC, cfC, memC, hone, hone2, ev_len, hlen, hlz, a172, hrw, a64, hrl, a173, hz, e0, h]
    exact ⟨Keep.app _ _, lv, v, rfl, hl' _, hnx' _, (hs.keep (.app _ _)).ro⟩
  · have hroom : roomN c w' ls.length = c.q - sz w' := by unfold roomN; rw [if_neg (by omega), if_neg (by omega)]
    rw [hroom, if_neg (by omega)]
    simp (disch := first | assumption | omega | (simp only [List.length_cons, List.length_nil, List.length_set, List.length_append] <;> omega) | (simp only [get_mid, get_mid0, List.cons_append, List.append_assoc, List.getElem?_cons_zero, List.getElem?_cons_succ])) only [ref09_StepLay, ek, ↓evW, ↓evQ, evB, evS, evL, List.map, AV.cells, List.all, AV.one, Bool.and_true, Bool.true_and, if_true, ↓thenQ_normal, ↓thenQ_exit, ↓thenQ_ret, ↓blockQ_normal, ↓blockQ_ret, ↓blockQ_exit, ↓CW_true, ↓CW_false, CW_true, CW_false, condT, condF, RQ_some, tupA_one, tupA_two, tupA_nil, Nat.reduceSub, Nat.reduceAdd, Nat.reduceMul, Nat.zero_add, Nat.add_zero, Nat.reduceLeDiff, Nat.reduceEqDiff, eqV, eqAll, fillA, and_self, and_true, true_and, Nat.le_refl, Bool.not_true, Bool.not_false, Bool.false_xor, Bool.true_xor, cond_true, cond_false, List.replicate, if_false, reduceIte, resAll, resA, ne_eq, decide_not, decide_true, decide_false, Int.reduceEq, Bool.not_true, Bool.not_false, not_true_eq_false, not_false_eq_true, cond_bool, cond_int, beq_self_eq_true, Int.reduceBEq, Bool.and_self, Bool.and_false, Bool.false_and, Bool.xor_false, Bool.xor_true, loadN_ldC, ldC_none, ldC_somes, stC_aggs, splice, storeN_stC, stC_int, stC_bool, stC_ptr, stC_nilp, stC_sl, stC_nils, getC_gcO, gcO_cells, W_draw_eq, ↓W_scope, ev_clear, evT, evF, evX, evM, ↓exitQ_normal, ↓exitQ_ret, ↓exitQ_exit, saA_self, saO_self, if_pos, if_neg, wrapI, get_concat, set_concat, Int.toNat_natCast, Int.toNat_zero, List.nil_append, Nat.mul_one, decide_eq_true, decide_eq_false, Int.reduceLE, Int.reduceLT, Int.reduceNeg, Bool.false_or, Bool.true_or, Bool.or_false, Bool.or_true, wrapU, Int.reduceAdd, Int.reduceSub, Int.reduceMul, List.append_assoc, List.length_append, get_mid, get_mid0, set_mid, set_mid0, List.length_set, List.length_cons, List.length_nil, List.cons_append, List.getElem?_append_left, List.set_append_left, get_at, get_at0, set_at, set_at0, List.getElem?_set_self, List.getElem?_set_ne, rlC, cfC, memC, hone, hone2, ev_len, hlen, hlz, a172, hrw, a64, hrl, a173, hz, e0, e1, e2, h, h']
    exact ⟨Keep.app _ _, lv, v, rfl, hl' _, hnx' _, (hs.keep (.app _ _)).ro⟩
  · have hroom : roomN c w' ls.length = ls.length := by unfold roomN; rw [if_neg (by omega)]; split <;> omega
    rw [hroom, if_neg (by omega)]
    simp (disch := first | assumption | omega | (simp only [List.length_cons, List.length_nil, List.length_set, List.length_append] <;> omega) | (simp only [get_mid, get_mid0, List.cons_append, List.append_assoc, List.getElem?_cons_zero, List.getElem?_cons_succ])) only [ref09_StepLay, ek, ↓evW, ↓evQ, evB, evS, evL, List.map, AV.cells, List.all, AV.one, Bool.and_true, Bool.true_and, if_true, ↓thenQ_normal, ↓thenQ_exit, ↓thenQ_ret, ↓blockQ_normal, ↓blockQ_ret, ↓blockQ_exit, ↓CW_true, ↓CW_false, CW_true, CW_false, condT, condF, RQ_some, tupA_one, tupA_two, tupA_nil, Nat.reduceSub, Nat.reduceAdd, Nat.reduceMul, Nat.zero_add, Nat.add_zero, Nat.reduceLeDiff, Nat.reduceEqDiff, eqV, eqAll, fillA, and_self, and_true, true_and, Nat.le_refl, Bool.not_true, Bool.not_false, Bool.false_xor, Bool.true_xor, cond_true, cond_false, List.replicate, if_false, reduceIte, resAll, resA, ne_eq, decide_not, decide_true, decide_false, Int.reduceEq, Bool.not_true, Bool.not_false, not_true_eq_false, not_false_eq_true, cond_bool, cond_int, beq_self_eq_true, Int.reduceBEq, Bool.and_self, Bool.and_false, Bool.false_and, Bool.xor_false, Bool.xor_true, loadN_ldC, ldC_none, ldC_somes, stC_aggs, splice, storeN_stC, stC_int, stC_bool, stC_ptr, stC_nilp, stC_sl, stC_nils, getC_gcO, gcO_cells, W_draw_eq, ↓W_scope, ev_clear, evT, evF, evX, evM, ↓exitQ_normal, ↓exitQ_ret, ↓exitQ_exit, saA_self, saO_self, if_pos, if_neg, wrapI, get_concat, set_concat, Int.toNat_natCast, Int.toNat_zero, List.nil_append, Nat.mul_one, decide_eq_true, decide_eq_false, Int.reduceLE, Int.reduceLT, Int.reduceNeg, Bool.false_or, Bool.true_or, Bool.or_false, Bool.or_true, wrapU, Int.reduceAdd, Int.reduceSub, Int.reduceMul, List.append_assoc, List.length_append, get_mid, get_mid0, set_mid, set_mid0, List.length_set, List.length_cons, List.length_nil, List.cons_append, List.getElem?_append_left, List.set_append_left, get_at, get_at0, set_at, set_at0, List.getElem?_set_self, List.getElem?_set_ne, rlC, cfC, memC, hone, hone2, ev_len, hlen, hlz, a172, hrw, a64, hrl, a173, hz, e0, e1, e2, h, h']
    exact ⟨Keep.app _ _, lv, v, rfl, hl' _, hnx' _, (hs.keep (.app _ _)).ro⟩
set_option maxHeartbeats 16000000 in
theorem rlstep2 {m : MM} {wr : Bool} {c : Cf} {p o : Int} {s : LS} {xs : List Int} {v lv : AV} (hs : SU m wr xs v) (hl : SI m false s.ls lv) (hnx : 0 < s.ls.length → Nx m lv) (hok : LOk c p s) (hx : OkL c xs) (ha : s.a = 2) (h0 : 0 < s.ls.length) :
    Fn Grl2 ref09_StepLay [.agg (rlC c p s lv), .agg (memC v o)] m (RyP m c p (stepL c p xs s) (IntKind.u64.wrap (o + 1))) := by
  have a171 : assoc Grl2 171 = some F10.c_ref09_Tail := rfl
  have a174 : assoc Grl2 174 = some F10.c_ref09_Slot := rfl
  have a65 : assoc Grl2 65 = some F06.c_ref06_Store := rfl
  generalize Grl2 = G at a171 a174 a65 ⊢
  have hone := slOne hs
  have hone2 := slOne hl
  simp only [AV.one] at hone hone2
  obtain ⟨a, w, k, n, ls⟩ := s
  simp only at ha hl hnx h0
  subst ha
  have hpl : thereP c p ∧ 0 ≤ k ∧ k < n ∧ n ≤ ls.length := hok.a.elim (fun h => by simp at h) (fun h => ⟨h.1, by have := h.2; simp only at this; omega⟩)
  obtain ⟨hp, hk0, hkn, hnl⟩ := hpl
  have hw := hok.w
  have hll := hok.l
  simp only at hw hll
  have hb := there_bounds hp
  have hcn := cellsN_le c
  have hxl := hx.1
  have hlen := hl.len
  have htb := tl_b w
  have htl := fun m : MM => rtail_eq m hw
  have hlz : ¬ ((ls.length : Int) = 0) := by omega
  obtain ⟨kN, rfl⟩ : ∃ kN : Nat, k = kN := ⟨k.toNat, by omega⟩
  obtain ⟨x, hxk⟩ : ∃ x, ls[kN]? = some x := ⟨_, List.getElem?_eq_getElem (by omega)⟩
  have e1 : IntKind.u32.wrap (tl w + IntKind.u32.wrap (kN : Int)) = (tl w + kN) % 4294967296 := by rw [wrap32, wrap32]; omega
  have hsl := fun m : MM => rslot_eq m hp (i := (tl w + kN) % 4294967296) (by omega) (by omega)
  have hps : slotA c p ((tl w + (kN : Int)) % 4294967296) = pslA c p w kN := rfl
  rw [hps] at hsl
  have hsb := psl_b (c := c) (p := p) (w := w) (i := kN) hp
  have hthr : thr xs (pslA c p w kN) := ⟨by omega, by omega⟩
  have hs1 : stepL c p xs ⟨2, w, kN, n, ls⟩ = (⟨if (kN : Int) + 1 = n then 3 else 2, w, kN + 1, n, ls⟩, xs.set (pslA c p w kN).toNat (IntKind.u64.wrap x)) := by
    have : ls.getD kN 0 = x := by rw [List.getD_eq_getElem?_getD, hxk]; rfl
    simp only [stepL, if_neg (show ¬ ((2 : Int) = 0) by decide), if_neg (show ¬ ((2 : Int) = 1) by decide), if_neg (show ¬ (ls.length = 0) by omega), if_true, Int.toNat_natCast, this]
  rw [hs1]
  simp only [cfC] at hsl
  obtain ⟨q, oo, cap, ro, L, rfl, b2, b3, b4, b5⟩ := hl.val h0
  have b6 := b5 kN x hxk
  have b2' := fun K : MM => (Keep.app m K).get b2
  have e3 : IntKind.i64.wrap ((kN : Int) + 1) = kN + 1 := wrapI (by omega) (by omega)
  refine Fn_of rfl ?_
  simp (disch := first | assumption | omega | (simp only [List.length_cons, List.length_nil, List.length_set, List.length_append] <;> omega) | (simp only [get_mid, get_mid0, List.cons_append, List.append_assoc, List.getElem?_cons_zero, List.getElem?_cons_succ])) only [ref09_StepLay, ek, ↓evW, ↓evQ, evB, evS, evL, List.map, AV.cells, List.all, AV.one, Bool.and_true, Bool.true_and, if_true, ↓thenQ_normal, ↓thenQ_exit, ↓thenQ_ret, ↓blockQ_normal, ↓blockQ_ret, ↓blockQ_exit, ↓CW_true, ↓CW_false, CW_true, CW_false, condT, condF, RQ_some, tupA_one, tupA_two, tupA_nil, Nat.reduceSub, Nat.reduceAdd, Nat.reduceMul, Nat.zero_add, Nat.add_zero, Nat.reduceLeDiff, Nat.reduceEqDiff, eqV, eqAll, fillA, and_self, and_true, true_and, Nat.le_refl, Bool.not_true, Bool.not_false, Bool.false_xor, Bool.true_xor, cond_true, cond_false, List.replicate, if_false, reduceIte, resAll, resA, ne_eq, decide_not, decide_true, decide_false, Int.reduceEq, Bool.not_true, Bool.not_false, not_true_eq_false, not_false_eq_true, cond_bool, cond_int, beq_self_eq_true, Int.reduceBEq, Bool.and_self, Bool.and_false, Bool.false_and, Bool.xor_false, Bool.xor_true, loadN_ldC, ldC_none, ldC_somes, stC_aggs, splice, storeN_stC, stC_int, stC_bool, stC_ptr, stC_nilp, stC_sl, stC_nils, getC_gcO, gcO_cells, W_draw_eq, ↓W_scope, ev_clear, evT, evF, evX, evM, ↓exitQ_normal, ↓exitQ_ret, ↓exitQ_exit, saA_self, saO_self, if_pos, if_neg, wrapI, get_concat, set_concat, Int.toNat_natCast, Int.toNat_zero, List.nil_append, Nat.mul_one, decide_eq_true, decide_eq_false, Int.reduceLE, Int.reduceLT, Int.reduceNeg, Bool.false_or, Bool.true_or, Bool.or_false, Bool.or_true, wrapU, Int.reduceAdd, Int.reduceSub, Int.reduceMul, List.append_assoc, List.length_append, get_mid, get_mid0, set_mid, set_mid0, List.length_set, List.length_cons, List.length_nil, List.cons_append, List.getElem?_append_left, List.set_append_left, get_at, get_at0, set_at, set_at0, List.getElem?_set_self, List.getElem?_set_ne, rlC, cfC, memC, hone, ev_len, hlen, hlz, a171, htl, e1, a174, hsl, b2, b2', b6, a65, F06.c_ref06_Store]
  have hst := fun K : MM => refstore_run (hs.keep (Keep.app m K)) (by omega) o (pslA c p w kN) (IntKind.u64.wrap x)
  simp only [memC] at hst
  refine OKT_fn (hst _) ?_
  rintro _ m1 ⟨k1, v', rfl, s1⟩
  rw [if_pos hthr] at s1
  simp only [if_pos hthr]
  have km : Keep m m1 := (Keep.app m _).trans k1
  have g0 := k1.get (i := m.length) (by rw [get_mid0]; rfl)
  have g1 := k1.get (i := m.length + 1) (by rw [get_mid]; rfl)
  have g2 := k1.get (i := m.length + 2) (by rw [get_mid]; rfl)
  have g3 := k1.get (i := m.length + 3) (by rw [get_mid]; rfl)
  have hl1 : m.length + 3 < m1.length := (List.getElem?_eq_some_iff.1 g3).1
  have hone' := slOne s1
  simp only [AV.one] at hone'
  have hno : ∀ b, m.length ≤ b → b < m.length + 4 → ∀ ro L, m1[b]? ≠ some (.cells 1 ro L) := by
    intro b b1 b2 ro L hb
    rcases (show b = m.length ∨ b = m.length + 1 ∨ b = m.length + 2 ∨ b = m.length + 3 by omega) with rfl | rfl | rfl | rfl
    · rw [g0] at hb; cases hb
    · rw [g1] at hb; cases hb
    · rw [g2] at hb; cases hb
    · rw [g3] at hb; cases hb
  have hb0 : LNx m.length (m.length + 4) m1 ls (.sl q oo ls.length cap) := ⟨hl.keep km, fun h => (hnx h).keep km, hno⟩
  by_cases hq : (kN : Int) + 1 = n
  · rw [if_pos hq]
    have hkn' : decide ((kN : Int) + 1 = n) = true := decide_eq_true hq
    simp (disch := first | assumption | omega | (simp only [List.length_cons, List.length_nil, List.length_set, List.length_append] <;> omega) | (simp only [get_mid, get_mid0, List.cons_append, List.append_assoc, List.getElem?_cons_zero, List.getElem?_cons_succ])) only [ek, ↓evW, ↓evQ, evB, evS, evL, List.map, AV.cells, List.all, AV.one, Bool.and_true, Bool.true_and, if_true, ↓thenQ_normal, ↓thenQ_exit, ↓thenQ_ret, ↓blockQ_normal, ↓blockQ_ret, ↓blockQ_exit, ↓CW_true, ↓CW_false, CW_true, CW_false, condT, condF, RQ_some, tupA_one, tupA_two, tupA_nil, Nat.reduceSub, Nat.reduceAdd, Nat.reduceMul, Nat.zero_add, Nat.add_zero, Nat.reduceLeDiff, Nat.reduceEqDiff, eqV, eqAll, fillA, and_self, and_true, true_and, Nat.le_refl, Bool.not_true, Bool.not_false, Bool.false_xor, Bool.true_xor, cond_true, cond_false, List.replicate, if_false, reduceIte, resAll, resA, ne_eq, decide_not, decide_true, decide_false, Int.reduceEq, Bool.not_true, Bool.not_false, not_true_eq_false, not_false_eq_true, cond_bool, cond_int, beq_self_eq_true, Int.reduceBEq, Bool.and_self, Bool.and_false, Bool.false_and, Bool.xor_false, Bool.xor_true, loadN_ldC, ldC_none, ldC_somes, stC_aggs, splice, storeN_stC, stC_int, stC_bool, stC_ptr, stC_nilp, stC_sl, stC_nils, getC_gcO, gcO_cells, W_draw_eq, ↓W_scope, ev_clear, evT, evF, evX, evM, ↓exitQ_normal, ↓exitQ_ret, ↓exitQ_exit, saA_self, saO_self, if_pos, if_neg, wrapI, get_concat, set_concat, Int.toNat_natCast, Int.toNat_zero, List.nil_append, Nat.mul_one, decide_eq_true, decide_eq_false, Int.reduceLE, Int.reduceLT, Int.reduceNeg, Bool.false_or, Bool.true_or, Bool.or_false, Bool.or_true, wrapU, Int.reduceAdd, Int.reduceSub, Int.reduceMul, List.append_assoc, List.length_append, get_mid, get_mid0, set_mid, set_mid0, List.length_set, List.length_cons, List.length_nil, List.cons_append, List.getElem?_append_left, List.set_append_left, get_at, get_at0, set_at, set_at0, List.getElem?_set_self, List.getElem?_set_ne, memC, g0, g1, g2, g3, hone', e3, hkn', b2', b6]
    refine ⟨?_, .sl q oo ls.length cap, v', rfl, LNx.sl (lo := m.length) (hi := m.length + 4) ?_, LNx.nx (lo := m.length) (hi := m.length + 4) ?_, SLN.sl (lo := m.length) (hi := m.length + 4) ?_⟩
    · repeat' first | exact km | refine Keep.set ?_ (by omega) _
    · repeat' first | exact hb0 | refine LNx.set ?_ (by omega) (by omega) (by intro _ _ h; cases h)
    · repeat' first | exact hb0 | refine LNx.set ?_ (by omega) (by omega) (by intro _ _ h; cases h)
    · repeat' first | exact ⟨s1, hno⟩ | refine SLN.set ?_ (by omega) (by omega) (by intro _ _ h; cases h)
  · rw [if_neg hq]
    have hkn' : decide ((kN : Int) + 1 = n) = false := decide_eq_false hq
    simp (disch := first | assumption | omega | (simp only [List.length_cons, List.length_nil, List.length_set, List.length_append] <;> omega) | (simp only [get_mid, get_mid0, List.cons_append, List.append_assoc, List.getElem?_cons_zero, List.getElem?_cons_succ])) only [ek, ↓evW, ↓evQ, evB, evS, evL, List.map, AV.cells, List.all, AV.one, Bool.and_true, Bool.true_and, if_true, ↓thenQ_normal, ↓thenQ_exit, ↓thenQ_ret, ↓blockQ_normal, ↓blockQ_ret, ↓blockQ_exit, ↓CW_true, ↓CW_false, CW_true, CW_false, condT, condF, RQ_some, tupA_one, tupA_two, tupA_nil, Nat.reduceSub, Nat.reduceAdd, Nat.reduceMul, Nat.zero_add, Nat.add_zero, Nat.reduceLeDiff, Nat.reduceEqDiff, eqV, eqAll, fillA, and_self, and_true, true_and, Nat.le_refl, Bool.not_true, Bool.not_false, Bool.false_xor, Bool.true_xor, cond_true, cond_false, List.replicate, if_false, reduceIte, resAll, resA, ne_eq, decide_not, decide_true, decide_false, Int.reduceEq, Bool.not_true, Bool.not_false, not_true_eq_false, not_false_eq_true, cond_bool, cond_int, beq_self_eq_true, Int.reduceBEq, Bool.and_self, Bool.and_false, Bool.false_and, Bool.xor_false, Bool.xor_true, loadN_ldC, ldC_none, ldC_somes, stC_aggs, splice, storeN_stC, stC_int, stC_bool, stC_ptr, stC_nilp, stC_sl, stC_nils, getC_gcO, gcO_cells, W_draw_eq, ↓W_scope, ev_clear, evT, evF, evX, evM, ↓exitQ_normal, ↓exitQ_ret, ↓exitQ_exit, saA_self, saO_self, if_pos, if_neg, wrapI, get_concat, set_concat, Int.toNat_natCast, Int.toNat_zero, List.nil_append, Nat.mul_one, decide_eq_true, decide_eq_false, Int.reduceLE, Int.reduceLT, Int.reduceNeg, Bool.false_or, Bool.true_or, Bool.or_false, Bool.or_true, wrapU, Int.reduceAdd, Int.reduceSub, Int.reduceMul, List.append_assoc, List.length_append, get_mid, get_mid0, set_mid, set_mid0, List.length_set, List.length_cons, List.length_nil, List.cons_append, List.getElem?_append_left, List.set_append_left, get_at, get_at0, set_at, set_at0, List.getElem?_set_self, List.getElem?_set_ne, memC, g0, g1, g2, g3, hone', e3, hkn', b2', b6]
    refine ⟨?_, .sl q oo ls.length cap, v', rfl, LNx.sl (lo := m.length) (hi := m.length + 4) ?_, LNx.nx (lo := m.length) (hi := m.length + 4) ?_, SLN.sl (lo := m.length) (hi := m.length + 4) ?_⟩
    · repeat' first | exact km | refine Keep.set ?_ (by omega) _
    · repeat' first | exact hb0 | refine LNx.set ?_ (by omega) (by omega) (by intro _ _ h; cases h)
    · repeat' first | exact hb0 | refine LNx.set ?_ (by omega) (by omega) (by intro _ _ h; cases h)
    · repeat' first | exact ⟨s1, hno⟩ | refine SLN.set ?_ (by omega) (by omega) (by intro _ _ h; cases h)
set_option maxHeartbeats 16000000 in
theorem rlstep3 {m : MM} {wr : Bool} {c : Cf} {p o : Int} {s : LS} {xs : List Int} {v lv : AV} (hs : SU m wr xs v) (hl : SI m false s.ls lv) (hnx : 0 < s.ls.length → Nx m lv) (hok : LOk c p s) (hx : OkL c xs) (ha : s.a = 3) (h0 : 0 < s.ls.length) :
    Fn Grl2 ref09_StepLay [.agg (rlC c p s lv), .agg (memC v o)] m (RyP m c p (stepL c p xs s) (IntKind.u64.wrap (o + 1))) := by
  have a170 : assoc Grl2 170 = some F10.c_ref09_Head := rfl
  have a171 : assoc Grl2 171 = some F10.c_ref09_Tail := rfl
  have a172 : assoc Grl2 172 = some F10.c_ref09_Word := rfl
  have a175 : assoc Grl2 175 = some F10.c_ref09_Pack := rfl
  have a66 : assoc Grl2 66 = some F06.c_ref06_CAS := rfl
  generalize Grl2 = G at a170 a171 a172 a175 a66 ⊢
  have hone := slOne hs
  have hone2 := slOne hl
  simp only [AV.one] at hone hone2
  obtain ⟨a, w, k, n, ls⟩ := s
  simp only at ha hl hnx h0
  subst ha
  have hpl : thereP c p ∧ 0 ≤ n ∧ n ≤ ls.length := hok.a.elim (fun h => by simp at h) (fun h => ⟨h.1, by have := h.2; simp only at this; omega⟩)
  obtain ⟨hp, hn0, hnl⟩ := hpl
  have hw := hok.w
  have hll := hok.l
  simp only at hw hll
  have hb := there_bounds hp
  have hcn := cellsN_le c
  have hxl := hx.1
  have hlen := hl.len
  have htb := tl_b w
  have hhb := hd_b hw
  have ha0 := addr_b hp (i := 0) (by omega) (by omega)
  have htl := fun m : MM => rtail_eq m hw
  have hhd := fun m : MM => rhead_eq m hw
  have hrw := fun m : MM => rword_eq m hp
  simp only [word_at hp, cfC] at hrw
  have hwt : (addrA c p 0).toNat = wrdN c p := rfl
  have hthr : thr xs (addrA c p 0) := ⟨by omega, by omega⟩
  have hlz : ¬ ((ls.length : Int) = 0) := by omega
  have e1 : IntKind.u32.wrap (tl w + IntKind.u32.wrap n) = (tl w + n) % 4294967296 := by rw [wrap32, wrap32]; omega
  have hpk := fun m : MM => rpack_eq m (h := hd w) (t := (tl w + n) % 4294967296) hhb.1 hhb.2 (by omega) (by omega)
  have hgw : pk (hd w) ((tl w + n) % 4294967296) = growW w n := rfl
  have hs1 : stepL c p xs ⟨3, w, k, n, ls⟩ = (if xs.getD (wrdN c p) 0 = w then (⟨0, w, k, n, ls.drop n.toNat⟩, xs.set (wrdN c p) (growW w n)) else (⟨1, w, k, n, ls⟩, xs)) := by
    simp only [stepL, if_neg (show ¬ ((3 : Int) = 0) by decide), if_neg (show ¬ ((3 : Int) = 1) by decide), if_neg (show ¬ ((3 : Int) = 2) by decide), if_neg (show ¬ (ls.length = 0) by omega)]
  rw [hs1]
  obtain ⟨q, oo, nn, L, rfl, hq1⟩ : ∃ q oo nn L, lv = .sl q oo nn none ∧ m[q]? = some (.cells 1 false L) := by
    rcases hnx h0 with h | ⟨q, oo, nn, L, h1, h2⟩
    · rw [h] at hlen; simp only [lenA, Option.some.injEq] at hlen; omega
    · exact ⟨q, oo, nn, L, h1, h2⟩
  refine Fn_of rfl ?_
  simp (disch := first | assumption | omega | (simp only [List.length_cons, List.length_nil, List.length_set, List.length_append] <;> omega) | (simp only [get_mid, get_mid0, List.cons_append, List.append_assoc, List.getElem?_cons_zero, List.getElem?_cons_succ])) only [ref09_StepLay, ek, ↓evW, ↓evQ, evB, evS, evL, List.map, AV.cells, List.all, AV.one, Bool.and_true, Bool.true_and, if_true, ↓thenQ_normal, ↓thenQ_exit, ↓thenQ_ret, ↓blockQ_normal, ↓blockQ_ret, ↓blockQ_exit, ↓CW_true, ↓CW_false, CW_true, CW_false, condT, condF, RQ_some, tupA_one, tupA_two, tupA_nil, Nat.reduceSub, Nat.reduceAdd, Nat.reduceMul, Nat.zero_add, Nat.add_zero, Nat.reduceLeDiff, Nat.reduceEqDiff, eqV, eqAll, fillA, and_self, and_true, true_and, Nat.le_refl, Bool.not_true, Bool.not_false, Bool.false_xor, Bool.true_xor, cond_true, cond_false, List.replicate, if_false, reduceIte, resAll, resA, ne_eq, decide_not, decide_true, decide_false, Int.reduceEq, Bool.not_true, Bool.not_false, not_true_eq_false, not_false_eq_true, cond_bool, cond_int, beq_self_eq_true, Int.reduceBEq, Bool.and_self, Bool.and_false, Bool.false_and, Bool.xor_false, Bool.xor_true, loadN_ldC, ldC_none, ldC_somes, stC_aggs, splice, storeN_stC, stC_int, stC_bool, stC_ptr, stC_nilp, stC_sl, stC_nils, getC_gcO, gcO_cells, W_draw_eq, ↓W_scope, ev_clear, evT, evF, evX, evM, ↓exitQ_normal, ↓exitQ_ret, ↓exitQ_exit, saA_self, saO_self, if_pos, if_neg, wrapI, get_concat, set_concat, Int.toNat_natCast, Int.toNat_zero, List.nil_append, Nat.mul_one, decide_eq_true, decide_eq_false, Int.reduceLE, Int.reduceLT, Int.reduceNeg, Bool.false_or, Bool.true_or, Bool.or_false, Bool.or_true, wrapU, Int.reduceAdd, Int.reduceSub, Int.reduceMul, List.append_assoc, List.length_append, get_mid, get_mid0, set_mid, set_mid0, List.length_set, List.length_cons, List.length_nil, List.cons_append, List.getElem?_append_left, List.set_append_left, get_at, get_at0, set_at, set_at0, List.getElem?_set_self, List.getElem?_set_ne, rlC, cfC, memC, hone, ev_len, hlen, hlz, a170, hhd, a171, htl, a172, hrw, e1, a175, hpk, hgw, a66, F06.c_ref06_CAS]
  have hcas := fun K : MM => rcas_run (hs.keep (Keep.app m K)) (by omega) o hthr w (growW w n)
  simp only [memC] at hcas
  refine OKT_fn (hcas _) ?_
  rintro _ m1 ⟨k1, v', rfl, s1⟩
  rw [hwt] at s1
  have km : Keep m m1 := (Keep.app m _).trans k1
  have g0 := k1.get (i := m.length) (by rw [get_mid0]; rfl)
  have g1 := k1.get (i := m.length + 1) (by rw [get_mid]; rfl)
  have g2 := k1.get (i := m.length + 2) (by rw [get_mid]; rfl)
  have g3 := k1.get (i := m.length + 3) (by rw [get_mid]; rfl)
  have hl1 : m.length + 3 < m1.length := (List.getElem?_eq_some_iff.1 g3).1
  have hone' := slOne s1
  simp only [AV.one] at hone'
  have hno : ∀ b, m.length ≤ b → b < m.length + 4 → ∀ ro L, m1[b]? ≠ some (.cells 1 ro L) := by
    intro b b1 b2 ro L hb
    rcases (show b = m.length ∨ b = m.length + 1 ∨ b = m.length + 2 ∨ b = m.length + 3 by omega) with rfl | rfl | rfl | rfl
    · rw [g0] at hb; cases hb
    · rw [g1] at hb; cases hb
    · rw [g2] at hb; cases hb
    · rw [g3] at hb; cases hb
  have hb0 : LNx m.length (m.length + 4) m1 ls (.sl q oo nn none) := ⟨hl.keep km, fun h => (hnx h).keep km, hno⟩
  by_cases heq : xs.getD (wrdN c p) 0 = w
  · have hd : decide (xs.getD (addrA c p 0).toNat 0 = w) = true := by rw [hwt]; exact decide_eq_true heq
    rw [if_pos heq] at s1 ⊢
    obtain ⟨nN, rfl⟩ : ∃ nN : Nat, n = nN := ⟨n.toNat, by omega⟩
    have hnn : nn = ls.length := by simpa only [lenA, Option.some.injEq] using hlen
    subst hnn
    have hq2 := km.get hq1
    have hql := (List.getElem?_eq_some_iff.1 hq1).1
    simp (disch := first | assumption | omega | (simp only [List.length_cons, List.length_nil, List.length_set, List.length_append] <;> omega) | (simp only [get_mid, get_mid0, List.cons_append, List.append_assoc, List.getElem?_cons_zero, List.getElem?_cons_succ])) only [ek, ↓evW, ↓evQ, evB, evS, evL, List.map, AV.cells, List.all, AV.one, Bool.and_true, Bool.true_and, if_true, ↓thenQ_normal, ↓thenQ_exit, ↓thenQ_ret, ↓blockQ_normal, ↓blockQ_ret, ↓blockQ_exit, ↓CW_true, ↓CW_false, CW_true, CW_false, condT, condF, RQ_some, tupA_one, tupA_two, tupA_nil, Nat.reduceSub, Nat.reduceAdd, Nat.reduceMul, Nat.zero_add, Nat.add_zero, Nat.reduceLeDiff, Nat.reduceEqDiff, eqV, eqAll, fillA, and_self, and_true, true_and, Nat.le_refl, Bool.not_true, Bool.not_false, Bool.false_xor, Bool.true_xor, cond_true, cond_false, List.replicate, if_false, reduceIte, resAll, resA, ne_eq, decide_not, decide_true, decide_false, Int.reduceEq, Bool.not_true, Bool.not_false, not_true_eq_false, not_false_eq_true, cond_bool, cond_int, beq_self_eq_true, Int.reduceBEq, Bool.and_self, Bool.and_false, Bool.false_and, Bool.xor_false, Bool.xor_true, loadN_ldC, ldC_none, ldC_somes, stC_aggs, splice, storeN_stC, stC_int, stC_bool, stC_ptr, stC_nilp, stC_sl, stC_nils, getC_gcO, gcO_cells, W_draw_eq, ↓W_scope, ev_clear, evT, evF, evX, evM, ↓exitQ_normal, ↓exitQ_ret, ↓exitQ_exit, saA_self, saO_self, if_pos, if_neg, wrapI, get_concat, set_concat, Int.toNat_natCast, Int.toNat_zero, List.nil_append, Nat.mul_one, decide_eq_true, decide_eq_false, Int.reduceLE, Int.reduceLT, Int.reduceNeg, Bool.false_or, Bool.true_or, Bool.or_false, Bool.or_true, wrapU, Int.reduceAdd, Int.reduceSub, Int.reduceMul, List.append_assoc, List.length_append, get_mid, get_mid0, set_mid, set_mid0, List.length_set, List.length_cons, List.length_nil, List.cons_append, List.getElem?_append_left, List.set_append_left, get_at, get_at0, set_at, set_at0, List.getElem?_set_self, List.getElem?_set_ne, memC, hd, g0, g1, g2, g3, hone', evA, sliceA, getC_gcO, Option.getD_none, Option.getD_some, hq2, Int.toNat_natCast, Nat.mul_one]
    have hfin := fun (M : MM) (h : LNx m.length (m.length + 4) M ls (.sl q oo ls.length none)) => (si_drop (k := nN) h.sl (h.nx h0) (by omega)).2
    refine ⟨?_, .sl q (oo + nN) (ls.length - nN) none, v', rfl, hfin _ ?_, fun _ => .inr ⟨q, _, _, L, rfl, ?_⟩, SLN.sl (lo := m.length) (hi := m.length + 4) ?_⟩
    · repeat' first | exact km | refine Keep.set ?_ (by omega) _
    · repeat' first | exact hb0 | refine LNx.set ?_ (by omega) (by omega) (by intro _ _ h; cases h)
    · repeat' first | exact hq2 | rw [List.getElem?_set_ne (by omega)]
    · repeat' first | exact ⟨s1, hno⟩ | refine SLN.set ?_ (by omega) (by omega) (by intro _ _ h; cases h)
  · have hd : decide (xs.getD (addrA c p 0).toNat 0 = w) = false := by rw [hwt]; exact decide_eq_false heq
    rw [if_neg heq] at s1 ⊢
    simp (disch := first | assumption | omega | (simp only [List.length_cons, List.length_nil, List.length_set, List.length_append] <;> omega) | (simp only [get_mid, get_mid0, List.cons_append, List.append_assoc, List.getElem?_cons_zero, List.getElem?_cons_succ])) only [ek, ↓evW, ↓evQ, evB, evS, evL, List.map, AV.cells, List.all, AV.one, Bool.and_true, Bool.true_and, if_true, ↓thenQ_normal, ↓thenQ_exit, ↓thenQ_ret, ↓blockQ_normal, ↓blockQ_ret, ↓blockQ_exit, ↓CW_true, ↓CW_false, CW_true, CW_false, condT, condF, RQ_some, tupA_one, tupA_two, tupA_nil, Nat.reduceSub, Nat.reduceAdd, Nat.reduceMul, Nat.zero_add, Nat.add_zero, Nat.reduceLeDiff, Nat.reduceEqDiff, eqV, eqAll, fillA, and_self, and_true, true_and, Nat.le_refl, Bool.not_true, Bool.not_false, Bool.false_xor, Bool.true_xor, cond_true, cond_false, List.replicate, if_false, reduceIte, resAll, resA, ne_eq, decide_not, decide_true, decide_false, Int.reduceEq, Bool.not_true, Bool.not_false, not_true_eq_false, not_false_eq_true, cond_bool, cond_int, beq_self_eq_true, Int.reduceBEq, Bool.and_self, Bool.and_false, Bool.false_and, Bool.xor_false, Bool.xor_true, loadN_ldC, ldC_none, ldC_somes, stC_aggs, splice, storeN_stC, stC_int, stC_bool, stC_ptr, stC_nilp, stC_sl, stC_nils, getC_gcO, gcO_cells, W_draw_eq, ↓W_scope, ev_clear, evT, evF, evX, evM, ↓exitQ_normal, ↓exitQ_ret, ↓exitQ_exit, saA_self, saO_self, if_pos, if_neg, wrapI, get_concat, set_concat, Int.toNat_natCast, Int.toNat_zero, List.nil_append, Nat.mul_one, decide_eq_true, decide_eq_false, Int.reduceLE, Int.reduceLT, Int.reduceNeg, Bool.false_or, Bool.true_or, Bool.or_false, Bool.or_true, wrapU, Int.reduceAdd, Int.reduceSub, Int.reduceMul, List.append_assoc, List.length_append, get_mid, get_mid0, set_mid, set_mid0, List.length_set, List.length_cons, List.length_nil, List.cons_append, List.getElem?_append_left, List.set_append_left, get_at, get_at0, set_at, set_at0, List.getElem?_set_self, List.getElem?_set_ne, memC, hd, g0, g1, g2, g3, hone']
    refine ⟨?_, .sl q oo nn none, v', rfl, LNx.sl (lo := m.length) (hi := m.length + 4) ?_, LNx.nx (lo := m.length) (hi := m.length + 4) ?_, SLN.sl (lo := m.length) (hi := m.length + 4) ?_⟩
    · repeat' first | exact km | refine Keep.set ?_ (by omega) _
    · repeat' first | exact hb0 | refine LNx.set ?_ (by omega) (by omega) (by intro _ _ h; cases h)
    · repeat' first | exact hb0 | refine LNx.set ?_ (by omega) (by omega) (by intro _ _ h; cases h)
    · repeat' first | exact ⟨s1, hno⟩ | refine SLN.set ?_ (by omega) (by omega) (by intro _ _ h; cases h)
end Go.Am.F09
end
