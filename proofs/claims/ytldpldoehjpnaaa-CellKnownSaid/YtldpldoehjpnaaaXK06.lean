/- What a log done again leaves; Same. -/
import Derived.Test.YtldpldoehjpnaaaXJ06
set_option linter.unusedSimpArgs false
set_option linter.unusedVariables false
namespace Go.Am.F06

/-- Each access of the row is done again as it was. -/
def redoOk (n : Nat) (es : List Acc) (e : Acc) : Prop := ¬ badE n es e ∧ stepL n es e.kind e.at' e.old (xOf e) = es ++ [e]
def Ch (n : Nat) : List Acc → List Acc → Prop
  | _, [] => True
  | es, e :: r => redoOk n es e ∧ Ch n (es ++ [e]) r
theorem ch_redo {n : Nat} : ∀ (r : List Acc) {es : List Acc}, Ch n es r → redoL n es r = (es ++ r, r.length)
  | [], es, _ => by simp [redoL]
  | e :: r, es, h => by
    obtain ⟨⟨h1, h2⟩, h3⟩ := h
    simp only [redoL, if_neg h1, h2, ch_redo r h3, List.append_assoc, List.singleton_append, List.length_cons]
theorem ch_app {n : Nat} : ∀ (a : List Acc) {es b : List Acc}, Ch n es (a ++ b) ↔ Ch n es a ∧ Ch n (es ++ a) b
  | [], es, b => by simp [Ch]
  | e :: a, es, b => by
    simp only [List.cons_append, Ch, ch_app a, and_assoc, List.append_assoc, List.singleton_append, List.nil_append]
theorem do_again {n : Nat} {es : List Acc} {k a o x : Int} {e : Acc} (h : doE n es k a o x = some e) : redoOk n es e := by
  unfold doE at h
  split at h
  · cases h
  · rename_i hc
    injection h with h
    generalize hw : (cellsOf n es).getD a.toNat 0 = w at h
    subst h
    have hb : ¬ badE n es ⟨k, a, w, if k = 2 ∨ (k = 3 ∧ w = o) then x else if k = 4 then IntKind.u64.wrap (w + x) else w⟩ := by
      rintro (h | h | h | h | h | h)
      · exact hc (.inr (.inr (.inl h)))
      · exact hc (.inr (.inr (.inr h)))
      · exact hc (.inl h)
      · exact hc (.inr (.inl h))
      · exact h hw
      · obtain ⟨h1, h2⟩ := h
        simp only at h1
        subst h1
        simp at h2
    refine ⟨hb, ?_⟩
    have hmod : ∀ z : Int, IntKind.u64.wrap z = z % 18446744073709551616 := fun z => by
      simp only [IntKind.wrap, IntKind.bits, IntKind.signed, Bool.false_and]; simp
    have hwr : IntKind.u64.wrap (w + IntKind.u64.wrap (IntKind.u64.wrap (w + x) - w)) = IntKind.u64.wrap (w + x) := by
      simp only [hmod]; omega
    have hd : doE n es k a w (xOf ⟨k, a, w, if k = 2 ∨ (k = 3 ∧ w = o) then x else if k = 4 then IntKind.u64.wrap (w + x) else w⟩) = some ⟨k, a, w, if k = 2 ∨ (k = 3 ∧ w = o) then x else if k = 4 then IntKind.u64.wrap (w + x) else w⟩ := by
      unfold doE xOf
      rw [if_neg hc, hw]
      have hk : k = 1 ∨ k = 2 ∨ k = 3 ∨ k = 4 := by omega
      rcases hk with rfl | rfl | rfl | rfl
      · simp
      · simp
      · by_cases hwo : w = o <;> simp [hwo]
      · simp only [if_true]
        rw [if_neg (by omega), if_neg (by omega), hwr]
    simp only [stepL, hd]
theorem ch_step {n : Nat} {es : List Acc} (h : Ch n [] es) (k a o x : Int) : Ch n [] (stepL n es k a o x) := by
  unfold stepL
  split
  · exact h
  · rename_i e he
    rw [ch_app]
    exact ⟨h, do_again he, trivial⟩

/- Equal rows of numbers. -/
section
variable {X : Type}
def EqI (n : Nat) (a b : AV) (xs ys : List Int) (m0 : Mem X) (k : Nat) (e : List AV) (m : Mem X) : Prop := ∃ (i : Nat) (x3 x4 x7 x8 : AV),
  e = [a, b, .bool false, x3, x4, .int .i64 n, .int .i64 i, x7, x8] ∧ m = m0 ∧ k = n - i ∧ i ≤ n ∧ ∀ j, j < i → xs[j]? = ys[j]?
set_option maxHeartbeats 2000000 in
theorem equal_run {G : List (Nat × AFun X)} {m : Mem X} {w1 w2 : Bool} {xs ys : List Int} {a b : AV} (ha : SU m w1 xs a) (hb : SU m w2 ys b) (hx : xs.length ≤ 65536) : Fn G slices_Equal_uint64 [a, b] m (fun r m' => r = .bool (decide (xs = ys)) ∧ m' = m) := by
  refine Fn_of rfl ?_
  have h1 := ha.len
  have h2 := hb.len
  by_cases hn : xs.length = ys.length
  · simp (disch := first | assumption | omega | (simp only [List.length_cons, List.length_nil, List.length_set, List.length_append] <;> omega) | (simp only [get_mid, get_mid0, List.cons_append, List.append_assoc, List.getElem?_cons_zero, List.getElem?_cons_succ])) only [slices_Equal_uint64, ek, ↓evW, ↓evQ, evB, evS, evL, List.map, AV.cells, List.all, AV.one, Bool.and_true, Bool.true_and, if_true, ↓thenQ_normal, ↓thenQ_exit, ↓thenQ_ret, ↓blockQ_normal, ↓blockQ_ret, ↓blockQ_exit, ↓CW_true, ↓CW_false, CW_true, CW_false, condT, condF, RQ_some, tupA_one, tupA_two, tupA_nil, Nat.reduceSub, Nat.reduceAdd, Nat.reduceMul, Nat.zero_add, Nat.add_zero, Nat.reduceLeDiff, Nat.reduceEqDiff, eqV, eqAll, fillA, and_self, and_true, true_and, Nat.le_refl, Bool.not_true, Bool.not_false, Bool.false_xor, Bool.true_xor, cond_true, cond_false, List.replicate, if_false, reduceIte, resAll, resA, ne_eq, decide_not, decide_true, decide_false, Int.reduceEq, Bool.not_true, Bool.not_false, not_true_eq_false, not_false_eq_true, cond_bool, cond_int, beq_self_eq_true, Int.reduceBEq, Bool.and_self, Bool.and_false, Bool.false_and, Bool.xor_false, Bool.xor_true, loadN_ldC, ldC_none, ldC_somes, stC_aggs, splice, storeN_stC, stC_int, stC_bool, stC_ptr, stC_nilp, stC_sl, stC_nils, getC_gcO, gcO_cells, W_draw_eq, ↓W_scope, ev_clear, evT, evF, evX, evM, ↓exitQ_normal, ↓exitQ_ret, ↓exitQ_exit, saA_self, saO_self, if_pos, if_neg, wrapI, get_concat, set_concat, Int.toNat_natCast, Int.toNat_zero, List.nil_append, Nat.mul_one, decide_eq_true, decide_eq_false, Int.reduceLE, Int.reduceLT, Int.reduceNeg, Bool.false_or, Bool.true_or, Bool.or_false, Bool.or_true, wrapU, Int.reduceAdd, Int.reduceSub, Int.reduceMul, ev_len, h1, h2, hn]
    refine W_loop (EqI ys.length a b xs ys m) ys.length (by simp only [FUEL]; omega) ⟨0, _, _, _, _, rfl, rfl, rfl, Nat.zero_le _, fun j hj => by omega⟩ ?_
    rintro k e m' ⟨i, x3, x4, x7, x8, rfl, rfl, rfl, hi, heq⟩
    simp (disch := first | assumption | omega | (simp only [List.length_cons, List.length_nil, List.length_set, List.length_append] <;> omega) | (simp only [get_mid, get_mid0, List.cons_append, List.append_assoc, List.getElem?_cons_zero, List.getElem?_cons_succ])) only [ek, ↓evW, ↓evQ, evB, evS, evL, List.map, AV.cells, List.all, AV.one, Bool.and_true, Bool.true_and, if_true, ↓thenQ_normal, ↓thenQ_exit, ↓thenQ_ret, ↓blockQ_normal, ↓blockQ_ret, ↓blockQ_exit, ↓CW_true, ↓CW_false, CW_true, CW_false, condT, condF, RQ_some, tupA_one, tupA_two, tupA_nil, Nat.reduceSub, Nat.reduceAdd, Nat.reduceMul, Nat.zero_add, Nat.add_zero, Nat.reduceLeDiff, Nat.reduceEqDiff, eqV, eqAll, fillA, and_self, and_true, true_and, Nat.le_refl, Bool.not_true, Bool.not_false, Bool.false_xor, Bool.true_xor, cond_true, cond_false, List.replicate, if_false, reduceIte, resAll, resA, ne_eq, decide_not, decide_true, decide_false, Int.reduceEq, Bool.not_true, Bool.not_false, not_true_eq_false, not_false_eq_true, cond_bool, cond_int, beq_self_eq_true, Int.reduceBEq, Bool.and_self, Bool.and_false, Bool.false_and, Bool.xor_false, Bool.xor_true, loadN_ldC, ldC_none, ldC_somes, stC_aggs, splice, storeN_stC, stC_int, stC_bool, stC_ptr, stC_nilp, stC_sl, stC_nils, getC_gcO, gcO_cells, W_draw_eq, ↓W_scope, ev_clear, evT, evF, evX, evM, ↓exitQ_normal, ↓exitQ_ret, ↓exitQ_exit, saA_self, saO_self, if_pos, if_neg, wrapI, get_concat, set_concat, Int.toNat_natCast, Int.toNat_zero, List.nil_append, Nat.mul_one, decide_eq_true, decide_eq_false, Int.reduceLE, Int.reduceLT, Int.reduceNeg, Bool.false_or, Bool.true_or, Bool.or_false, Bool.or_true, wrapU, Int.reduceAdd, Int.reduceSub, Int.reduceMul]
    refine CW_of (fun h => ?_) (fun h => ?_)
    · simp only [decide_eq_true_eq] at h
      obtain ⟨x, hxi⟩ : ∃ x, xs[i]? = some x := ⟨_, List.getElem?_eq_getElem (by omega)⟩
      obtain ⟨y, hyi⟩ : ∃ y, ys[i]? = some y := ⟨_, List.getElem?_eq_getElem (by omega)⟩
      obtain ⟨q, o, cap, ro, L, rfl, b2, b3, b4, b5, b6⟩ := SU.get ha hxi
      obtain ⟨q2, o2, cap2, ro2, L2, rfl, c2, c3, c4, c5, c6⟩ := SU.get hb hyi
      simp (disch := first | assumption | omega | (simp only [List.length_cons, List.length_nil, List.length_set, List.length_append] <;> omega) | (simp only [get_mid, get_mid0, List.cons_append, List.append_assoc, List.getElem?_cons_zero, List.getElem?_cons_succ])) only [ek, ↓evW, ↓evQ, evB, evS, evL, List.map, AV.cells, List.all, AV.one, Bool.and_true, Bool.true_and, if_true, ↓thenQ_normal, ↓thenQ_exit, ↓thenQ_ret, ↓blockQ_normal, ↓blockQ_ret, ↓blockQ_exit, ↓CW_true, ↓CW_false, CW_true, CW_false, condT, condF, RQ_some, tupA_one, tupA_two, tupA_nil, Nat.reduceSub, Nat.reduceAdd, Nat.reduceMul, Nat.zero_add, Nat.add_zero, Nat.reduceLeDiff, Nat.reduceEqDiff, eqV, eqAll, fillA, and_self, and_true, true_and, Nat.le_refl, Bool.not_true, Bool.not_false, Bool.false_xor, Bool.true_xor, cond_true, cond_false, List.replicate, if_false, reduceIte, resAll, resA, ne_eq, decide_not, decide_true, decide_false, Int.reduceEq, Bool.not_true, Bool.not_false, not_true_eq_false, not_false_eq_true, cond_bool, cond_int, beq_self_eq_true, Int.reduceBEq, Bool.and_self, Bool.and_false, Bool.false_and, Bool.xor_false, Bool.xor_true, loadN_ldC, ldC_none, ldC_somes, stC_aggs, splice, storeN_stC, stC_int, stC_bool, stC_ptr, stC_nilp, stC_sl, stC_nils, getC_gcO, gcO_cells, W_draw_eq, ↓W_scope, ev_clear, evT, evF, evX, evM, ↓exitQ_normal, ↓exitQ_ret, ↓exitQ_exit, saA_self, saO_self, if_pos, if_neg, wrapI, get_concat, set_concat, Int.toNat_natCast, Int.toNat_zero, List.nil_append, Nat.mul_one, decide_eq_true, decide_eq_false, Int.reduceLE, Int.reduceLT, Int.reduceNeg, Bool.false_or, Bool.true_or, Bool.or_false, Bool.or_true, wrapU, Int.reduceAdd, Int.reduceSub, Int.reduceMul, b2, b6, c2, c6]
      by_cases hxy : x = y
      · subst hxy
        simp (disch := first | assumption | omega | (simp only [List.length_cons, List.length_nil, List.length_set, List.length_append] <;> omega) | (simp only [get_mid, get_mid0, List.cons_append, List.append_assoc, List.getElem?_cons_zero, List.getElem?_cons_succ])) only [ek, ↓evW, ↓evQ, evB, evS, evL, List.map, AV.cells, List.all, AV.one, Bool.and_true, Bool.true_and, if_true, ↓thenQ_normal, ↓thenQ_exit, ↓thenQ_ret, ↓blockQ_normal, ↓blockQ_ret, ↓blockQ_exit, ↓CW_true, ↓CW_false, CW_true, CW_false, condT, condF, RQ_some, tupA_one, tupA_two, tupA_nil, Nat.reduceSub, Nat.reduceAdd, Nat.reduceMul, Nat.zero_add, Nat.add_zero, Nat.reduceLeDiff, Nat.reduceEqDiff, eqV, eqAll, fillA, and_self, and_true, true_and, Nat.le_refl, Bool.not_true, Bool.not_false, Bool.false_xor, Bool.true_xor, cond_true, cond_false, List.replicate, if_false, reduceIte, resAll, resA, ne_eq, decide_not, decide_true, decide_false, Int.reduceEq, Bool.not_true, Bool.not_false, not_true_eq_false, not_false_eq_true, cond_bool, cond_int, beq_self_eq_true, Int.reduceBEq, Bool.and_self, Bool.and_false, Bool.false_and, Bool.xor_false, Bool.xor_true, loadN_ldC, ldC_none, ldC_somes, stC_aggs, splice, storeN_stC, stC_int, stC_bool, stC_ptr, stC_nilp, stC_sl, stC_nils, getC_gcO, gcO_cells, W_draw_eq, ↓W_scope, ev_clear, evT, evF, evX, evM, ↓exitQ_normal, ↓exitQ_ret, ↓exitQ_exit, saA_self, saO_self, if_pos, if_neg, wrapI, get_concat, set_concat, Int.toNat_natCast, Int.toNat_zero, List.nil_append, Nat.mul_one, decide_eq_true, decide_eq_false, Int.reduceLE, Int.reduceLT, Int.reduceNeg, Bool.false_or, Bool.true_or, Bool.or_false, Bool.or_true, wrapU, Int.reduceAdd, Int.reduceSub, Int.reduceMul]
        refine ⟨_, by omega, i + 1, _, _, _, _, rfl, rfl, rfl, by omega, fun j hj => ?_⟩
        by_cases hji : j = i
        · rw [hji, hxi, hyi]
        · exact heq j (by omega)
      · have hne : ¬ xs = ys := fun h => hxy (by rw [h, hyi] at hxi; injection hxi with h; exact h.symm)
        simp (disch := first | assumption | omega | (simp only [List.length_cons, List.length_nil, List.length_set, List.length_append] <;> omega) | (simp only [get_mid, get_mid0, List.cons_append, List.append_assoc, List.getElem?_cons_zero, List.getElem?_cons_succ])) only [ek, ↓evW, ↓evQ, evB, evS, evL, List.map, AV.cells, List.all, AV.one, Bool.and_true, Bool.true_and, if_true, ↓thenQ_normal, ↓thenQ_exit, ↓thenQ_ret, ↓blockQ_normal, ↓blockQ_ret, ↓blockQ_exit, ↓CW_true, ↓CW_false, CW_true, CW_false, condT, condF, RQ_some, tupA_one, tupA_two, tupA_nil, Nat.reduceSub, Nat.reduceAdd, Nat.reduceMul, Nat.zero_add, Nat.add_zero, Nat.reduceLeDiff, Nat.reduceEqDiff, eqV, eqAll, fillA, and_self, and_true, true_and, Nat.le_refl, Bool.not_true, Bool.not_false, Bool.false_xor, Bool.true_xor, cond_true, cond_false, List.replicate, if_false, reduceIte, resAll, resA, ne_eq, decide_not, decide_true, decide_false, Int.reduceEq, Bool.not_true, Bool.not_false, not_true_eq_false, not_false_eq_true, cond_bool, cond_int, beq_self_eq_true, Int.reduceBEq, Bool.and_self, Bool.and_false, Bool.false_and, Bool.xor_false, Bool.xor_true, loadN_ldC, ldC_none, ldC_somes, stC_aggs, splice, storeN_stC, stC_int, stC_bool, stC_ptr, stC_nilp, stC_sl, stC_nils, getC_gcO, gcO_cells, W_draw_eq, ↓W_scope, ev_clear, evT, evF, evX, evM, ↓exitQ_normal, ↓exitQ_ret, ↓exitQ_exit, saA_self, saO_self, if_pos, if_neg, wrapI, get_concat, set_concat, Int.toNat_natCast, Int.toNat_zero, List.nil_append, Nat.mul_one, decide_eq_true, decide_eq_false, Int.reduceLE, Int.reduceLT, Int.reduceNeg, Bool.false_or, Bool.true_or, Bool.or_false, Bool.or_true, wrapU, Int.reduceAdd, Int.reduceSub, Int.reduceMul, hne]
    · simp only [decide_eq_false_iff_not] at h
      have he : xs = ys := by
        apply List.ext_getElem?
        intro j
        by_cases hj : j < i
        · exact heq j hj
        · rw [List.getElem?_eq_none (by omega), List.getElem?_eq_none (by omega)]
      simp (disch := first | assumption | omega | (simp only [List.length_cons, List.length_nil, List.length_set, List.length_append] <;> omega) | (simp only [get_mid, get_mid0, List.cons_append, List.append_assoc, List.getElem?_cons_zero, List.getElem?_cons_succ])) only [ek, ↓evW, ↓evQ, evB, evS, evL, List.map, AV.cells, List.all, AV.one, Bool.and_true, Bool.true_and, if_true, ↓thenQ_normal, ↓thenQ_exit, ↓thenQ_ret, ↓blockQ_normal, ↓blockQ_ret, ↓blockQ_exit, ↓CW_true, ↓CW_false, CW_true, CW_false, condT, condF, RQ_some, tupA_one, tupA_two, tupA_nil, Nat.reduceSub, Nat.reduceAdd, Nat.reduceMul, Nat.zero_add, Nat.add_zero, Nat.reduceLeDiff, Nat.reduceEqDiff, eqV, eqAll, fillA, and_self, and_true, true_and, Nat.le_refl, Bool.not_true, Bool.not_false, Bool.false_xor, Bool.true_xor, cond_true, cond_false, List.replicate, if_false, reduceIte, resAll, resA, ne_eq, decide_not, decide_true, decide_false, Int.reduceEq, Bool.not_true, Bool.not_false, not_true_eq_false, not_false_eq_true, cond_bool, cond_int, beq_self_eq_true, Int.reduceBEq, Bool.and_self, Bool.and_false, Bool.false_and, Bool.xor_false, Bool.xor_true, loadN_ldC, ldC_none, ldC_somes, stC_aggs, splice, storeN_stC, stC_int, stC_bool, stC_ptr, stC_nilp, stC_sl, stC_nils, getC_gcO, gcO_cells, W_draw_eq, ↓W_scope, ev_clear, evT, evF, evX, evM, ↓exitQ_normal, ↓exitQ_ret, ↓exitQ_exit, saA_self, saO_self, if_pos, if_neg, wrapI, get_concat, set_concat, Int.toNat_natCast, Int.toNat_zero, List.nil_append, Nat.mul_one, decide_eq_true, decide_eq_false, Int.reduceLE, Int.reduceLT, Int.reduceNeg, Bool.false_or, Bool.true_or, Bool.or_false, Bool.or_true, wrapU, Int.reduceAdd, Int.reduceSub, Int.reduceMul, he]
  · have hne : ¬ xs = ys := fun h => hn (by rw [h])
    simp (disch := first | assumption | omega | (simp only [List.length_cons, List.length_nil, List.length_set, List.length_append] <;> omega) | (simp only [get_mid, get_mid0, List.cons_append, List.append_assoc, List.getElem?_cons_zero, List.getElem?_cons_succ])) only [slices_Equal_uint64, ek, ↓evW, ↓evQ, evB, evS, evL, List.map, AV.cells, List.all, AV.one, Bool.and_true, Bool.true_and, if_true, ↓thenQ_normal, ↓thenQ_exit, ↓thenQ_ret, ↓blockQ_normal, ↓blockQ_ret, ↓blockQ_exit, ↓CW_true, ↓CW_false, CW_true, CW_false, condT, condF, RQ_some, tupA_one, tupA_two, tupA_nil, Nat.reduceSub, Nat.reduceAdd, Nat.reduceMul, Nat.zero_add, Nat.add_zero, Nat.reduceLeDiff, Nat.reduceEqDiff, eqV, eqAll, fillA, and_self, and_true, true_and, Nat.le_refl, Bool.not_true, Bool.not_false, Bool.false_xor, Bool.true_xor, cond_true, cond_false, List.replicate, if_false, reduceIte, resAll, resA, ne_eq, decide_not, decide_true, decide_false, Int.reduceEq, Bool.not_true, Bool.not_false, not_true_eq_false, not_false_eq_true, cond_bool, cond_int, beq_self_eq_true, Int.reduceBEq, Bool.and_self, Bool.and_false, Bool.false_and, Bool.xor_false, Bool.xor_true, loadN_ldC, ldC_none, ldC_somes, stC_aggs, splice, storeN_stC, stC_int, stC_bool, stC_ptr, stC_nilp, stC_sl, stC_nils, getC_gcO, gcO_cells, W_draw_eq, ↓W_scope, ev_clear, evT, evF, evX, evM, ↓exitQ_normal, ↓exitQ_ret, ↓exitQ_exit, saA_self, saO_self, if_pos, if_neg, wrapI, get_concat, set_concat, Int.toNat_natCast, Int.toNat_zero, List.nil_append, Nat.mul_one, decide_eq_true, decide_eq_false, Int.reduceLE, Int.reduceLT, Int.reduceNeg, Bool.false_or, Bool.true_or, Bool.or_false, Bool.or_true, wrapU, Int.reduceAdd, Int.reduceSub, Int.reduceMul, ev_len, h1, h2, hne]
end

def allF : AFun Ob := orF (memNF allS) c_cell_Mem_All
theorem all_nil (m : MM) : c_cell_Mem_All [.nilp] m = some (.nils, m) := Fn_eq (Fn_of rfl (by simp (disch := first | assumption | omega | (simp only [List.length_cons, List.length_nil, List.length_set, List.length_append] <;> omega) | (simp only [get_mid, get_mid0, List.cons_append, List.append_assoc, List.getElem?_cons_zero, List.getElem?_cons_succ])) only [cell_Mem_All, ek, ↓evW, ↓evQ, evB, evS, evL, List.map, AV.cells, List.all, AV.one, Bool.and_true, Bool.true_and, if_true, ↓thenQ_normal, ↓thenQ_exit, ↓thenQ_ret, ↓blockQ_normal, ↓blockQ_ret, ↓blockQ_exit, ↓CW_true, ↓CW_false, CW_true, CW_false, condT, condF, RQ_some, tupA_one, tupA_two, tupA_nil, Nat.reduceSub, Nat.reduceAdd, Nat.reduceMul, Nat.zero_add, Nat.add_zero, Nat.reduceLeDiff, Nat.reduceEqDiff, eqV, eqAll, fillA, and_self, and_true, true_and, Nat.le_refl, Bool.not_true, Bool.not_false, Bool.false_xor, Bool.true_xor, cond_true, cond_false, List.replicate, if_false, reduceIte, resAll, resA, ne_eq, decide_not, decide_true, decide_false, Int.reduceEq, Bool.not_true, Bool.not_false, not_true_eq_false, not_false_eq_true, cond_bool, cond_int, beq_self_eq_true, Int.reduceBEq, Bool.and_self, Bool.and_false, Bool.false_and, Bool.xor_false, Bool.xor_true, loadN_ldC, ldC_none, ldC_somes, stC_aggs, splice, storeN_stC, stC_int, stC_bool, stC_ptr, stC_nilp, stC_sl, stC_nils, getC_gcO, gcO_cells, W_draw_eq, ↓W_scope, ev_clear, evT, evF, evX, evM, ↓exitQ_normal, ↓exitQ_ret, ↓exitQ_exit, saA_self, saO_self, if_pos, if_neg, wrapI, get_concat, set_concat, Int.toNat_natCast, Int.toNat_zero, List.nil_append, Nat.mul_one, decide_eq_true, decide_eq_false, Int.reduceLE, Int.reduceLT, Int.reduceNeg, Bool.false_or, Bool.true_or, Bool.or_false, Bool.or_true, wrapU, Int.reduceAdd, Int.reduceSub, Int.reduceMul]))
theorem allF_nil (m : MM) : allF [.nilp] m = some (.nils, m) := by
  simp only [allF, orF, memNF, all_nil]
theorem allF_of {M : MM} {j : Nat} {s : MemSt} (hM : M[j]? = some (.abs (.mem s))) (hn : s.cells.length ≤ 65536) : ∃ l, allF [.ptr j 0] M = some (l, M ++ [.cells 1 false (uC s.cells)]) ∧ SU (M ++ [.cells 1 false (uC s.cells)]) true s.cells l := by
  obtain ⟨l, h1, h2, _⟩ := all_of hM hn
  exact ⟨l, by simp only [allF, orF, h1], h2⟩
def Gsame : List (Nat × AFun Ob) := [(47, allF), (69, c_slices_Equal_uint64)]
theorem same_mem {M : MM} {i j : Nat} {s t : MemSt} (hi : M[i]? = some (.abs (.mem s))) (hj : M[j]? = some (.abs (.mem t))) (hs : s.cells.length ≤ 65536) (ht : t.cells.length ≤ 65536) :
    ∃ J, amFunc Gsame cell_Same [.ptr i 0, .ptr j 0] M = some (.bool (decide (s.cells = t.cells)), M ++ J) := by
  obtain ⟨l1, f1, s1⟩ := allF_of hi hs
  obtain ⟨l2, f2, s2⟩ := allF_of (M := M ++ [.cells 1 false (uC s.cells)]) (by rw [List.getElem?_append_left (List.getElem?_eq_some_iff.1 hj).1]; exact hj) ht
  have he := Fn_eq (equal_run (G := []) (s1.keep (Keep.app _ [.cells 1 false (uC t.cells)])) s2 hs)
  have a47 : assoc Gsame 47 = some allF := rfl
  have a69 : assoc Gsame 69 = some c_slices_Equal_uint64 := rfl
  generalize Gsame = G at a47 a69 ⊢
  refine ⟨[.cells 1 false (uC s.cells), .cells 1 false (uC t.cells)], Fn_eq (Fn_of rfl ?_)⟩
  simp (disch := first | assumption | omega | (simp only [List.length_cons, List.length_nil, List.length_set, List.length_append] <;> omega) | (simp only [get_mid, get_mid0, List.cons_append, List.append_assoc, List.getElem?_cons_zero, List.getElem?_cons_succ])) only [cell_Same, ek, ↓evW, ↓evQ, evB, evS, evL, List.map, AV.cells, List.all, AV.one, Bool.and_true, Bool.true_and, if_true, ↓thenQ_normal, ↓thenQ_exit, ↓thenQ_ret, ↓blockQ_normal, ↓blockQ_ret, ↓blockQ_exit, ↓CW_true, ↓CW_false, CW_true, CW_false, condT, condF, RQ_some, tupA_one, tupA_two, tupA_nil, Nat.reduceSub, Nat.reduceAdd, Nat.reduceMul, Nat.zero_add, Nat.add_zero, Nat.reduceLeDiff, Nat.reduceEqDiff, eqV, eqAll, fillA, and_self, and_true, true_and, Nat.le_refl, Bool.not_true, Bool.not_false, Bool.false_xor, Bool.true_xor, cond_true, cond_false, List.replicate, if_false, reduceIte, resAll, resA, ne_eq, decide_not, decide_true, decide_false, Int.reduceEq, Bool.not_true, Bool.not_false, not_true_eq_false, not_false_eq_true, cond_bool, cond_int, beq_self_eq_true, Int.reduceBEq, Bool.and_self, Bool.and_false, Bool.false_and, Bool.xor_false, Bool.xor_true, loadN_ldC, ldC_none, ldC_somes, stC_aggs, splice, storeN_stC, stC_int, stC_bool, stC_ptr, stC_nilp, stC_sl, stC_nils, getC_gcO, gcO_cells, W_draw_eq, ↓W_scope, ev_clear, evT, evF, evX, evM, ↓exitQ_normal, ↓exitQ_ret, ↓exitQ_exit, saA_self, saO_self, if_pos, if_neg, wrapI, get_concat, set_concat, Int.toNat_natCast, Int.toNat_zero, List.nil_append, Nat.mul_one, decide_eq_true, decide_eq_false, Int.reduceLE, Int.reduceLT, Int.reduceNeg, Bool.false_or, Bool.true_or, Bool.or_false, Bool.or_true, wrapU, Int.reduceAdd, Int.reduceSub, Int.reduceMul, a47, f1, f2, a69, c_slices_Equal_uint64, he]
  simp
theorem same_nilp {M : MM} {j : Nat} {t : MemSt} (hj : M[j]? = some (.abs (.mem t))) (ht : t.cells.length ≤ 65536) : ∃ J, amFunc Gsame cell_Same [.nilp, .ptr j 0] M = some (.bool (decide ([] = t.cells)), M ++ J) := by
  obtain ⟨l2, f2, s2⟩ := allF_of hj ht
  have he := Fn_eq (equal_run (G := []) (w1 := false) (xs := []) (a := .nils) Sl.nil s2 (by simp))
  have a47 : assoc Gsame 47 = some allF := rfl
  have a69 : assoc Gsame 69 = some c_slices_Equal_uint64 := rfl
  generalize Gsame = G at a47 a69 ⊢
  refine ⟨[.cells 1 false (uC t.cells)], Fn_eq (Fn_of rfl ?_)⟩
  simp (disch := first | assumption | omega | (simp only [List.length_cons, List.length_nil, List.length_set, List.length_append] <;> omega) | (simp only [get_mid, get_mid0, List.cons_append, List.append_assoc, List.getElem?_cons_zero, List.getElem?_cons_succ])) only [cell_Same, ek, ↓evW, ↓evQ, evB, evS, evL, List.map, AV.cells, List.all, AV.one, Bool.and_true, Bool.true_and, if_true, ↓thenQ_normal, ↓thenQ_exit, ↓thenQ_ret, ↓blockQ_normal, ↓blockQ_ret, ↓blockQ_exit, ↓CW_true, ↓CW_false, CW_true, CW_false, condT, condF, RQ_some, tupA_one, tupA_two, tupA_nil, Nat.reduceSub, Nat.reduceAdd, Nat.reduceMul, Nat.zero_add, Nat.add_zero, Nat.reduceLeDiff, Nat.reduceEqDiff, eqV, eqAll, fillA, and_self, and_true, true_and, Nat.le_refl, Bool.not_true, Bool.not_false, Bool.false_xor, Bool.true_xor, cond_true, cond_false, List.replicate, if_false, reduceIte, resAll, resA, ne_eq, decide_not, decide_true, decide_false, Int.reduceEq, Bool.not_true, Bool.not_false, not_true_eq_false, not_false_eq_true, cond_bool, cond_int, beq_self_eq_true, Int.reduceBEq, Bool.and_self, Bool.and_false, Bool.false_and, Bool.xor_false, Bool.xor_true, loadN_ldC, ldC_none, ldC_somes, stC_aggs, splice, storeN_stC, stC_int, stC_bool, stC_ptr, stC_nilp, stC_sl, stC_nils, getC_gcO, gcO_cells, W_draw_eq, ↓W_scope, ev_clear, evT, evF, evX, evM, ↓exitQ_normal, ↓exitQ_ret, ↓exitQ_exit, saA_self, saO_self, if_pos, if_neg, wrapI, get_concat, set_concat, Int.toNat_natCast, Int.toNat_zero, List.nil_append, Nat.mul_one, decide_eq_true, decide_eq_false, Int.reduceLE, Int.reduceLT, Int.reduceNeg, Bool.false_or, Bool.true_or, Bool.or_false, Bool.or_true, wrapU, Int.reduceAdd, Int.reduceSub, Int.reduceMul, a47, allF_nil, f2, a69, c_slices_Equal_uint64, he]

/-- Parts of a slice. -/
theorem sa_take {X : Type} {m : Mem X} {wr : Bool} {es : List Acc} {v : AV} (h : SA m wr es v) (hnc : Nc v) {k : Nat} (hk : k ≤ es.length) : ∃ r, sliceA m 4 v none (some k) none = some r ∧ SA m wr (es.take k) r := by
  have hlen := h.len
  rcases hnc with rfl | ⟨q, o, n, rfl⟩
  · have h0 : es.length = 0 := by simpa [lenA] using hlen.symm
    have : es = [] := List.length_eq_zero_iff.1 h0
    subst this
    have : k = 0 := by simpa using hk
    subst this
    exact ⟨.nils, rfl, Sl.nil⟩
  · have hn : n + 1 = es.length := by simpa [lenA] using hlen
    obtain ⟨q', o', cap, ro, L, h1, h2, h3, h4, h5⟩ := h.at (by omega)
    injection h1 with e1 e2 e3 e4
    subst e1; subst e2; subst e4
    refine ⟨.sl q o k none, ?_, by rw [accs_len], .inr ⟨q, o, none, by rw [List.length_take, Nat.min_eq_left hk], fun h0 => ⟨ro, L, h2, ?_, ?_, h5⟩⟩⟩
    · simp only [sliceA, getC_gcO, h2, gcO_cells, Option.getD_none, Option.getD_some]
      rw [if_pos ⟨trivial, by omega, by omega⟩]; simp
    · rw [List.length_take, Nat.min_eq_left hk]
      have := congrArg (List.take (k * 4)) h3
      rw [List.take_take, Nat.min_eq_left (by omega)] at this
      rw [this]
      have ht := accs_len (es.take k)
      rw [List.length_take, Nat.min_eq_left hk] at ht
      conv => lhs; rw [← List.take_append_drop k es, List.flatMap_append]
      rw [← ht, List.take_left]
    · rw [List.length_take, Nat.min_eq_left hk]; omega
theorem sa_drop {X : Type} {m : Mem X} {wr : Bool} {es : List Acc} {v : AV} (h : SA m wr es v) (hnc : Nc v) {k : Nat} (hk : k ≤ es.length) : ∃ r, sliceA m 4 v (some k) none none = some r ∧ SA m wr (es.drop k) r := by
  have hlen := h.len
  rcases hnc with rfl | ⟨q, o, n, rfl⟩
  · have h0 : es.length = 0 := by simpa [lenA] using hlen.symm
    have : es = [] := List.length_eq_zero_iff.1 h0
    subst this
    have : k = 0 := by simpa using hk
    subst this
    exact ⟨.nils, rfl, Sl.nil⟩
  · have hn : n + 1 = es.length := by simpa [lenA] using hlen
    obtain ⟨q', o', cap, ro, L, h1, h2, h3, h4, h5⟩ := h.at (by omega)
    injection h1 with e1 e2 e3 e4
    subst e1; subst e2; subst e4
    have hdl : (es.drop k).length = n + 1 - k := by rw [List.length_drop, hn]
    refine ⟨.sl q (o + k * 4) (n + 1 - k) none, ?_, by rw [accs_len], .inr ⟨q, _, none, by rw [hdl], fun h0 => ⟨ro, L, h2, ?_, by rw [hdl]; omega, h5⟩⟩⟩
    · simp only [sliceA, getC_gcO, h2, gcO_cells, Option.getD_none, Option.getD_some]
      rw [if_pos ⟨trivial, by omega, by omega⟩]
    · have := accs_drop (es.take k) (es.drop k)
      rw [List.take_append_drop, List.length_take, Nat.min_eq_left (by omega)] at this
      rw [← this, ← h3, List.drop_take, List.drop_drop, hdl]
      congr 1; omega
end Go.Am.F06
