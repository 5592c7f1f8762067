import Derived.Test.YtimgbjimonmkdaaXD06
set_option linter.unusedSimpArgs false
set_option linter.unusedVariables false
namespace Go.Am.F06
section
variable {X : Type}
abbrev SU (m : Mem X) (wr : Bool) (xs : List Int) (v : AV) : Prop := Sl m wr 1 xs.length (uC xs) v
theorem uC_len (xs : List Int) : (uC xs).length = xs.length := by simp [uC]
theorem uC_one (xs : List Int) : (uC xs).all AV.one = true := by simp [uC, AV.one]
theorem uC_set (xs : List Int) (i : Nat) (x : Int) : (uC xs).set i (.int .u64 x) = uC (xs.set i x) := by simp [uC, List.map_set]
theorem SU.get {m : Mem X} {wr : Bool} {xs : List Int} {v : AV} (h : SU m wr xs v) {i : Nat} {x : Int} (hx : xs[i]? = some x) : ∃ q o cap ro L, v = .sl q o xs.length cap ∧ m[q]? = some (.cells 1 ro L) ∧ (wr = true → ro = false) ∧ i < xs.length ∧ o + i < L.length ∧ L[o + i]? = some (.int .u64 x) := by
  have hi : i < xs.length := (List.getElem?_eq_some_iff.1 hx).1
  obtain ⟨q, o, cap, ro, L, rfl, h2, h3, h4, h5⟩ := h.at (by omega)
  exact ⟨q, o, cap, ro, L, rfl, h2, h5, hi, by omega, by rw [sl_get h3 (by omega)]; simp [uC, hx]⟩
def Off (q : Nat) (v : AV) : Prop := ∀ q' o n cap, v = .sl q' o n cap → 0 < n → q' ≠ q
theorem KeepB.off {k : Nat} {m m' : Mem X} (h : KeepB k m m') {wr : Bool} {sz n : Nat} {l : List AV} {v : AV} (ho : Off k v) (hs : Sl m wr sz n l v) : Sl m' wr sz n l v := by
  refine ⟨hs.1, ?_⟩
  rcases hs.2 with h1 | ⟨q, o, cap, h1, h2⟩
  · exact .inl h1
  · refine .inr ⟨q, o, cap, h1, fun h0 => ?_⟩
    obtain ⟨ro, L, h3, h4⟩ := h2 h0
    exact ⟨ro, L, h.get h3 (ho _ _ _ _ h1 h0), h4⟩
def slq : AV → Nat
  | .sl q _ _ _ => q
  | _ => 0
def ScI (M : Mem X) (xs : List Int) (l r : AV) (wr : Bool) (k : Nat) (e : List AV) (m : Mem X) : Prop := ∃ (i : Nat) (xs' : List Int) (x4 x5 x6 : AV),
  e = [l, r, .bool false, .int .i64 i, x4, x5, x6] ∧ k = xs.length - i ∧ i ≤ xs.length ∧ KeepB (slq l) M m ∧ SU m true xs' l ∧ xs'.length = xs.length ∧ (∀ j, i ≤ j → xs'[j]? = xs[j]?) ∧ SU m wr xs r
set_option maxHeartbeats 2000000 in
theorem samecells_run {G : List (Nat × AFun X)} {M : Mem X} {wr : Bool} {xs : List Int} {l r : AV} (hl : SU M true xs l) (hr : SU M wr xs r) (ho : Off (slq l) r) (hx : xs.length ≤ 65536) :
    Fn G docs_SameCells [l, r] M (fun v m' => v = .bool true ∧ KeepB (slq l) M m') := by
  have h1 := hl.len
  have h2 := hr.len
  refine Fn_of rfl ?_
  simp (disch := first | assumption | omega | (simp only [List.length_cons, List.length_nil, List.length_set, List.length_append] <;> omega) | (simp only [get_mid, get_mid0, List.cons_append, List.append_assoc, List.getElem?_cons_zero, List.getElem?_cons_succ])) only [docs_SameCells, ek, ↓evW, ↓evQ, evB, evS, evL, List.map, AV.cells, List.all, AV.one, Bool.and_true, Bool.true_and, if_true, ↓thenQ_normal, ↓thenQ_exit, ↓thenQ_ret, ↓blockQ_normal, ↓blockQ_ret, ↓blockQ_exit, ↓CW_true, ↓CW_false, CW_true, CW_false, condT, condF, RQ_some, tupA_one, tupA_two, tupA_nil, Nat.reduceSub, Nat.reduceAdd, Nat.reduceMul, Nat.zero_add, Nat.add_zero, Nat.reduceLeDiff, Nat.reduceEqDiff, eqV, eqAll, fillA, and_self, and_true, true_and, Nat.le_refl, Bool.not_true, Bool.not_false, Bool.false_xor, Bool.true_xor, cond_true, cond_false, List.replicate, if_false, reduceIte, resAll, resA, ne_eq, decide_not, decide_true, decide_false, Int.reduceEq, Bool.not_true, Bool.not_false, not_true_eq_false, not_false_eq_true, cond_bool, cond_int, beq_self_eq_true, Int.reduceBEq, Bool.and_self, Bool.and_false, Bool.false_and, Bool.xor_false, Bool.xor_true, loadN_ldC, ldC_none, ldC_somes, stC_aggs, splice, storeN_stC, stC_int, stC_bool, stC_ptr, stC_nilp, stC_sl, stC_nils, getC_gcO, gcO_cells, W_draw_eq, ↓W_scope, ev_clear, evT, evF, evX, evM, ↓exitQ_normal, ↓exitQ_ret, ↓exitQ_exit, saA_self, saO_self, if_pos, if_neg, wrapI, get_concat, set_concat, Int.toNat_natCast, Int.toNat_zero, List.nil_append, Nat.mul_one, decide_eq_true, decide_eq_false, Int.reduceLE, Int.reduceLT, Int.reduceNeg, Bool.false_or, Bool.true_or, Bool.or_false, Bool.or_true, wrapU, Int.reduceAdd, Int.reduceSub, Int.reduceMul, ev_len, h1, h2]
  refine W_loop (ScI M xs l r wr) xs.length (by simp only [FUEL]; omega) ⟨0, xs, _, _, _, rfl, rfl, by omega, KeepB.refl _, hl, rfl, fun _ _ => rfl, hr⟩ ?_
  rintro k e m' ⟨i, xs', x4, x5, x6, rfl, rfl, hi, hk, sl, hxl, hxe, sr⟩
  simp (disch := first | assumption | omega | (simp only [List.length_cons, List.length_nil, List.length_set, List.length_append] <;> omega) | (simp only [get_mid, get_mid0, List.cons_append, List.append_assoc, List.getElem?_cons_zero, List.getElem?_cons_succ])) only [ek, ↓evW, ↓evQ, evB, evS, evL, List.map, AV.cells, List.all, AV.one, Bool.and_true, Bool.true_and, if_true, ↓thenQ_normal, ↓thenQ_exit, ↓thenQ_ret, ↓blockQ_normal, ↓blockQ_ret, ↓blockQ_exit, ↓CW_true, ↓CW_false, CW_true, CW_false, condT, condF, RQ_some, tupA_one, tupA_two, tupA_nil, Nat.reduceSub, Nat.reduceAdd, Nat.reduceMul, Nat.zero_add, Nat.add_zero, Nat.reduceLeDiff, Nat.reduceEqDiff, eqV, eqAll, fillA, and_self, and_true, true_and, Nat.le_refl, Bool.not_true, Bool.not_false, Bool.false_xor, Bool.true_xor, cond_true, cond_false, List.replicate, if_false, reduceIte, resAll, resA, ne_eq, decide_not, decide_true, decide_false, Int.reduceEq, Bool.not_true, Bool.not_false, not_true_eq_false, not_false_eq_true, cond_bool, cond_int, beq_self_eq_true, Int.reduceBEq, Bool.and_self, Bool.and_false, Bool.false_and, Bool.xor_false, Bool.xor_true, loadN_ldC, ldC_none, ldC_somes, stC_aggs, splice, storeN_stC, stC_int, stC_bool, stC_ptr, stC_nilp, stC_sl, stC_nils, getC_gcO, gcO_cells, W_draw_eq, ↓W_scope, ev_clear, evT, evF, evX, evM, ↓exitQ_normal, ↓exitQ_ret, ↓exitQ_exit, saA_self, saO_self, if_pos, if_neg, wrapI, get_concat, set_concat, Int.toNat_natCast, Int.toNat_zero, List.nil_append, Nat.mul_one, decide_eq_true, decide_eq_false, Int.reduceLE, Int.reduceLT, Int.reduceNeg, Bool.false_or, Bool.true_or, Bool.or_false, Bool.or_true, wrapU, Int.reduceAdd, Int.reduceSub, Int.reduceMul, ev_len, h1]
  refine CW_of (fun h => ?_) (fun h => ?_)
  · simp only [decide_eq_true_eq] at h
    obtain ⟨x, hxi⟩ : ∃ x, xs[i]? = some x := ⟨_, List.getElem?_eq_getElem (by omega)⟩
    have hxi' : xs'[i]? = some x := by rw [hxe i (Nat.le_refl _)]; exact hxi
    obtain ⟨q, o, cap, ro, L, rfl, b2, b3, b4, b5, b6⟩ := sl.get hxi'
    have := b3 rfl; subst this
    obtain ⟨q2, o2, cap2, ro2, L2, rfl, c2, c3, c4, c5, c6⟩ := sr.get hxi
    have hne : q2 ≠ q := ho _ _ _ _ rfl (by omega)
    simp (disch := first | assumption | omega | (simp only [List.length_cons, List.length_nil, List.length_set, List.length_append] <;> omega) | (simp only [get_mid, get_mid0, List.cons_append, List.append_assoc, List.getElem?_cons_zero, List.getElem?_cons_succ])) only [ek, ↓evW, ↓evQ, evB, evS, evL, List.map, AV.cells, List.all, AV.one, Bool.and_true, Bool.true_and, if_true, ↓thenQ_normal, ↓thenQ_exit, ↓thenQ_ret, ↓blockQ_normal, ↓blockQ_ret, ↓blockQ_exit, ↓CW_true, ↓CW_false, CW_true, CW_false, condT, condF, RQ_some, tupA_one, tupA_two, tupA_nil, Nat.reduceSub, Nat.reduceAdd, Nat.reduceMul, Nat.zero_add, Nat.add_zero, Nat.reduceLeDiff, Nat.reduceEqDiff, eqV, eqAll, fillA, and_self, and_true, true_and, Nat.le_refl, Bool.not_true, Bool.not_false, Bool.false_xor, Bool.true_xor, cond_true, cond_false, List.replicate, if_false, reduceIte, resAll, resA, ne_eq, decide_not, decide_true, decide_false, Int.reduceEq, Bool.not_true, Bool.not_false, not_true_eq_false, not_false_eq_true, cond_bool, cond_int, beq_self_eq_true, Int.reduceBEq, Bool.and_self, Bool.and_false, Bool.false_and, Bool.xor_false, Bool.xor_true, loadN_ldC, ldC_none, ldC_somes, stC_aggs, splice, storeN_stC, stC_int, stC_bool, stC_ptr, stC_nilp, stC_sl, stC_nils, getC_gcO, gcO_cells, W_draw_eq, ↓W_scope, ev_clear, evT, evF, evX, evM, ↓exitQ_normal, ↓exitQ_ret, ↓exitQ_exit, saA_self, saO_self, if_pos, if_neg, wrapI, get_concat, set_concat, Int.toNat_natCast, Int.toNat_zero, List.nil_append, Nat.mul_one, decide_eq_true, decide_eq_false, Int.reduceLE, Int.reduceLT, Int.reduceNeg, Bool.false_or, Bool.true_or, Bool.or_false, Bool.or_true, wrapU, Int.reduceAdd, Int.reduceSub, Int.reduceMul, b2, b6, c2, c6]
    refine ⟨_, by omega, i + 1, xs'.set i (IntKind.u64.wrap (x + 77)), _, _, _, rfl, rfl, by omega, hk.trans (KeepB.at _ _), ?_, by simp [hxl], fun j hj => by rw [List.getElem?_set_ne (by omega)]; exact hxe j (by omega), (KeepB.at _ _).off ho sr⟩
    obtain ⟨hlen, hsl⟩ := sl
    rcases hsl with ⟨h, _⟩ | ⟨q', o', cap', h, h5⟩
    · cases h
    · injection h with e1 e2 e3 e4; subst e1; subst e2; subst e4
      obtain ⟨ro, L', d1, d2, d3, d4⟩ := h5 (by omega)
      rw [b2] at d1; injection d1 with d1; injection d1 with _ _ d1; subst d1
      refine ⟨by simp [uC_len], .inr ⟨q, o, cap, by rw [List.length_set], fun _ => ⟨false, _, List.getElem?_set_self (List.getElem?_eq_some_iff.1 b2).1, ?_, by simpa using d3, fun _ => rfl⟩⟩⟩
      rw [List.length_set, List.drop_set, if_neg (by omega), List.take_set, d2, ← uC_set]
      congr 1; omega
  · simp only [decide_eq_false_iff_not] at h
    simp (disch := first | assumption | omega | (simp only [List.length_cons, List.length_nil, List.length_set, List.length_append] <;> omega) | (simp only [get_mid, get_mid0, List.cons_append, List.append_assoc, List.getElem?_cons_zero, List.getElem?_cons_succ])) only [ek, ↓evW, ↓evQ, evB, evS, evL, List.map, AV.cells, List.all, AV.one, Bool.and_true, Bool.true_and, if_true, ↓thenQ_normal, ↓thenQ_exit, ↓thenQ_ret, ↓blockQ_normal, ↓blockQ_ret, ↓blockQ_exit, ↓CW_true, ↓CW_false, CW_true, CW_false, condT, condF, RQ_some, tupA_one, tupA_two, tupA_nil, Nat.reduceSub, Nat.reduceAdd, Nat.reduceMul, Nat.zero_add, Nat.add_zero, Nat.reduceLeDiff, Nat.reduceEqDiff, eqV, eqAll, fillA, and_self, and_true, true_and, Nat.le_refl, Bool.not_true, Bool.not_false, Bool.false_xor, Bool.true_xor, cond_true, cond_false, List.replicate, if_false, reduceIte, resAll, resA, ne_eq, decide_not, decide_true, decide_false, Int.reduceEq, Bool.not_true, Bool.not_false, not_true_eq_false, not_false_eq_true, cond_bool, cond_int, beq_self_eq_true, Int.reduceBEq, Bool.and_self, Bool.and_false, Bool.false_and, Bool.xor_false, Bool.xor_true, loadN_ldC, ldC_none, ldC_somes, stC_aggs, splice, storeN_stC, stC_int, stC_bool, stC_ptr, stC_nilp, stC_sl, stC_nils, getC_gcO, gcO_cells, W_draw_eq, ↓W_scope, ev_clear, evT, evF, evX, evM, ↓exitQ_normal, ↓exitQ_ret, ↓exitQ_exit, saA_self, saO_self, if_pos, if_neg, wrapI, get_concat, set_concat, Int.toNat_natCast, Int.toNat_zero, List.nil_append, Nat.mul_one, decide_eq_true, decide_eq_false, Int.reduceLE, Int.reduceLT, Int.reduceNeg, Bool.false_or, Bool.true_or, Bool.or_false, Bool.or_true, wrapU, Int.reduceAdd, Int.reduceSub, Int.reduceMul]
    exact hk
end
theorem sl_off {X : Type} {m : Mem X} {wr : Bool} {sz n : Nat} {l : List AV} {v : AV} (h : Sl m wr sz n l v) {q : Nat} (hq : m.length ≤ q) : Off q v := by
  intro q' o' n' c' hv h0
  rcases h.2 with ⟨h1, _⟩ | ⟨q2, o2, c2, h1, h2⟩
  · rw [h1] at hv; cases hv
  · rw [h1] at hv; injection hv with e1 e2 e3 e4; subst e1; subst e3
    obtain ⟨ro, L, h3, _⟩ := h2 h0
    have := (List.getElem?_eq_some_iff.1 h3).1
    omega
theorem len_of {M : MM} {j : Nat} {s : MemSt} (hM : M[j]? = some (.abs (.mem s))) : memF (fun s rest => (lenAsk s rest).map fun v => (v, s)) [.ptr j 0] M = some (.int .i64 s.cells.length, M) := by
  simp only [memF, hM, lenAsk, Option.map_some, set_same hM]
theorem ops_of {M : MM} {j : Nat} {s : MemSt} (hM : M[j]? = some (.abs (.mem s))) : memF (fun s rest => (opsAsk s rest).map fun v => (v, s)) [.ptr j 0] M = some (.int .u64 s.ops, M) := by
  simp only [memF, hM, opsAsk, Option.map_some, set_same hM]
theorem all_of {M : MM} {j : Nat} {s : MemSt} (hM : M[j]? = some (.abs (.mem s))) (hn : s.cells.length ≤ 65536) : ∃ l, memNF allS [.ptr j 0] M = some (l, M ++ [.cells 1 false (uC s.cells)]) ∧ SU (M ++ [.cells 1 false (uC s.cells)]) true s.cells l ∧ slq l = M.length := by
  simp only [memNF, hM, allS, if_pos hn, set_same hM]
  refine ⟨_, rfl, ?_⟩
  by_cases h : s.cells = []
  · rw [if_pos h]
    exact ⟨⟨by rw [uC_len]; omega, .inr ⟨_, _, _, by rw [h]; rfl, fun h0 => by rw [h] at h0; cases h0⟩⟩, rfl⟩
  · rw [if_neg h]
    exact ⟨⟨by rw [uC_len]; omega, .inr ⟨_, _, _, rfl, fun h0 => ⟨false, _, by rw [get_concat], by rw [List.drop_zero, Nat.mul_one, ← uC_len, List.take_length], by rw [uC_len]; omega, fun _ => rfl⟩⟩⟩, rfl⟩
end Go.Am.F06
