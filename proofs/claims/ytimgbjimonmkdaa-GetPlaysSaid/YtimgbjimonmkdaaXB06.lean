import Derived.Test.YtimgbjimonmkdaaXZ06
set_option linter.unusedSimpArgs false
set_option linter.unusedVariables false
namespace Go.Am.F06
def cellsOf (n : Nat) (es : List Acc) : List Int := es.foldl (fun c e => c.set e.at'.toNat e.new) (List.replicate n 0)
theorem cellsOf_nil (n : Nat) : cellsOf n [] = List.replicate n 0 := rfl
theorem cellsOf_app (n : Nat) (es : List Acc) (e : Acc) : cellsOf n (es ++ [e]) = (cellsOf n es).set e.at'.toNat e.new := by simp [cellsOf]
theorem cellsOf_len (n : Nat) (es : List Acc) : (cellsOf n es).length = n := by
  have : ∀ (es : List Acc) (c : List Int), (es.foldl (fun c e => c.set e.at'.toNat e.new) c).length = c.length := by
    intro es
    induction es with
    | nil => intro c; rfl
    | cons e es ih => intro c; rw [List.foldl_cons, ih, List.length_set]
  rw [cellsOf, this, List.length_replicate]
theorem cellsOf_take {n i : Nat} {es : List Acc} {e : Acc} (h : es[i]? = some e) : cellsOf n (es.take (i + 1)) = (cellsOf n (es.take i)).set e.at'.toNat e.new := by
  rw [List.take_add_one, h]; exact cellsOf_app _ _ _
def okE (n : Nat) (es : List Acc) : Prop := ∀ e, e ∈ es → 0 ≤ e.at' ∧ e.at' < n
theorem okE_at {n i : Nat} {es : List Acc} {e : Acc} (h : okE n es) (he : es[i]? = some e) : 0 ≤ e.at' ∧ e.at' < n := h e (List.mem_of_getElem? he)
section
variable {X : Type}
abbrev SA (m : Mem X) (wr : Bool) (es : List Acc) (v : AV) : Prop := Sl m wr 4 es.length (es.flatMap accC) v
theorem SA.get {m : Mem X} {wr : Bool} {es : List Acc} {v : AV} (h : SA m wr es v) {i : Nat} {e : Acc} (he : es[i]? = some e) : ∃ q o cap ro L, v = .sl q o es.length cap ∧ m[q]? = some (.cells 4 ro L) ∧ (wr = true → ro = false) ∧ i < es.length ∧ o + i * 4 + 4 ≤ L.length ∧
    (L.drop (o + i * 4)).take 4 = accC e ∧ L[o + i * 4]? = some (.int .i64 e.kind) ∧ L[o + i * 4 + 1]? = some (.int .i64 e.at') ∧ L[o + i * 4 + 2]? = some (.int .u64 e.old) ∧ L[o + i * 4 + 3]? = some (.int .u64 e.new) := by
  have hi : i < es.length := (List.getElem?_eq_some_iff.1 he).1
  obtain ⟨q, o, cap, ro, L, rfl, h2, h3, h4, h5⟩ := h.at (by omega)
  have hp := rows_part (f := accC) (sz := 4) (fun _ => rfl) he
  have hL : ∀ k, k < 4 → L[o + i * 4 + k]? = (accC e)[k]? := by
    intro k hk
    rw [Nat.add_assoc, sl_get h3 (by omega), rows_at (f := accC) (sz := 4) (fun _ => rfl) he hk]
  refine ⟨q, o, cap, ro, L, rfl, h2, h5, hi, by omega, ?_, hL 0 (by omega), hL 1 (by omega), hL 2 (by omega), hL 3 (by omega)⟩
  apply List.ext_getElem?
  intro k
  by_cases hk : k < 4
  · rw [List.getElem?_take, if_pos hk, List.getElem?_drop, hL k hk]
  · rw [List.getElem?_eq_none (by simp; omega), List.getElem?_eq_none (by simp [accC]; omega)]
def bookC (n : Nat) (v : AV) : List AV := [.int .i64 n, v]
def AtI (M : Mem X) (n : Nat) (es : List Acc) (v : AV) (a : Int) (k : Nat) (e : List AV) (m : Mem X) : Prop := ∃ (i : Int) (x5 x6 : AV),
  e = [.agg (bookC n v), .int .i64 a, .ptr M.length 0, .int .u64 0, .int .i64 i, x5, x6] ∧ m = M ++ [.cells 2 false (bookC n v)] ∧ (k : Int) = i + 1 ∧ i < es.length ∧ (cellsOf n es)[a.toNat]? = (cellsOf n (es.take (i + 1).toNat))[a.toNat]?
set_option maxHeartbeats 2000000 in
theorem at_run {G : List (Nat × AFun X)} {m : Mem X} {wr : Bool} {n : Nat} {es : List Acc} {v : AV} {a : Int} (hs : SA m wr es v) (hok : okE n es) (hn : es.length ≤ 1000) (h0 : 0 ≤ a) (h1 : a < n) :
    Fn G ref06_At [.agg (bookC n v), .int .i64 a] m (fun r m' => r = .int .u64 ((cellsOf n es).getD a.toNat 0) ∧ m' = m ++ [.cells 2 false (bookC n v)]) := by
  have hlen := hs.len
  have hone : v.one = true := by
    rcases hs.2 with ⟨h, _⟩ | ⟨q, o, cap, h, _⟩ <;> rw [h] <;> rfl
  simp only [AV.one] at hone
  refine Fn_of rfl ?_
  simp (disch := first | assumption | omega | (simp only [List.length_cons, List.length_nil, List.length_set, List.length_append] <;> omega) | (simp only [get_mid, get_mid0, List.cons_append, List.append_assoc, List.getElem?_cons_zero, List.getElem?_cons_succ])) only [ref06_At, ek, ↓evW, ↓evQ, evB, evS, evL, List.map, AV.cells, List.all, AV.one, Bool.and_true, Bool.true_and, if_true, ↓thenQ_normal, ↓thenQ_exit, ↓thenQ_ret, ↓blockQ_normal, ↓blockQ_ret, ↓blockQ_exit, ↓CW_true, ↓CW_false, CW_true, CW_false, condT, condF, RQ_some, tupA_one, tupA_two, tupA_nil, Nat.reduceSub, Nat.reduceAdd, Nat.reduceMul, Nat.zero_add, Nat.add_zero, Nat.reduceLeDiff, Nat.reduceEqDiff, eqV, eqAll, fillA, and_self, and_true, true_and, Nat.le_refl, Bool.not_true, Bool.not_false, Bool.false_xor, Bool.true_xor, cond_true, cond_false, List.replicate, if_false, reduceIte, resAll, resA, ne_eq, decide_not, decide_true, decide_false, Int.reduceEq, Bool.not_true, Bool.not_false, not_true_eq_false, not_false_eq_true, cond_bool, cond_int, beq_self_eq_true, Int.reduceBEq, Bool.and_self, Bool.and_false, Bool.false_and, Bool.xor_false, Bool.xor_true, loadN_ldC, ldC_none, ldC_somes, stC_aggs, splice, storeN_stC, stC_int, stC_bool, stC_ptr, stC_nilp, stC_sl, stC_nils, getC_gcO, gcO_cells, W_draw_eq, ↓W_scope, ev_clear, evT, evF, evX, evM, ↓exitQ_normal, ↓exitQ_ret, ↓exitQ_exit, saA_self, saO_self, if_pos, if_neg, wrapI, get_concat, set_concat, Int.toNat_natCast, Int.toNat_zero, List.nil_append, Nat.mul_one, decide_eq_true, decide_eq_false, Int.reduceLE, Int.reduceLT, Int.reduceNeg, Bool.false_or, Bool.true_or, Bool.or_false, Bool.or_true, wrapU, Int.reduceAdd, Int.reduceSub, Int.reduceMul, List.append_assoc, List.length_append, get_mid, get_mid0, set_mid, set_mid0, bookC, ev_len, hlen, hone]
  refine W_loop (AtI m n es v a) es.length (by simp only [FUEL]; omega) ⟨(es.length : Int) - 1, _, _, rfl, rfl, by omega, by omega, by rw [List.take_of_length_le (by omega)]⟩ ?_
  rintro k e m' ⟨i, x5, x6, rfl, rfl, hk, hi, hc⟩
  simp (disch := first | assumption | omega | (simp only [List.length_cons, List.length_nil, List.length_set, List.length_append] <;> omega) | (simp only [get_mid, get_mid0, List.cons_append, List.append_assoc, List.getElem?_cons_zero, List.getElem?_cons_succ])) only [ek, ↓evW, ↓evQ, evB, evS, evL, List.map, AV.cells, List.all, AV.one, Bool.and_true, Bool.true_and, if_true, ↓thenQ_normal, ↓thenQ_exit, ↓thenQ_ret, ↓blockQ_normal, ↓blockQ_ret, ↓blockQ_exit, ↓CW_true, ↓CW_false, CW_true, CW_false, condT, condF, RQ_some, tupA_one, tupA_two, tupA_nil, Nat.reduceSub, Nat.reduceAdd, Nat.reduceMul, Nat.zero_add, Nat.add_zero, Nat.reduceLeDiff, Nat.reduceEqDiff, eqV, eqAll, fillA, and_self, and_true, true_and, Nat.le_refl, Bool.not_true, Bool.not_false, Bool.false_xor, Bool.true_xor, cond_true, cond_false, List.replicate, if_false, reduceIte, resAll, resA, ne_eq, decide_not, decide_true, decide_false, Int.reduceEq, Bool.not_true, Bool.not_false, not_true_eq_false, not_false_eq_true, cond_bool, cond_int, beq_self_eq_true, Int.reduceBEq, Bool.and_self, Bool.and_false, Bool.false_and, Bool.xor_false, Bool.xor_true, loadN_ldC, ldC_none, ldC_somes, stC_aggs, splice, storeN_stC, stC_int, stC_bool, stC_ptr, stC_nilp, stC_sl, stC_nils, getC_gcO, gcO_cells, W_draw_eq, ↓W_scope, ev_clear, evT, evF, evX, evM, ↓exitQ_normal, ↓exitQ_ret, ↓exitQ_exit, saA_self, saO_self, if_pos, if_neg, wrapI, get_concat, set_concat, Int.toNat_natCast, Int.toNat_zero, List.nil_append, Nat.mul_one, decide_eq_true, decide_eq_false, Int.reduceLE, Int.reduceLT, Int.reduceNeg, Bool.false_or, Bool.true_or, Bool.or_false, Bool.or_true, wrapU, Int.reduceAdd, Int.reduceSub, Int.reduceMul, List.append_assoc, List.length_append, get_mid, get_mid0, set_mid, set_mid0, bookC]
  refine CW_of (fun h => ?_) (fun h => ?_)
  · simp only [decide_eq_true_eq] at h
    obtain ⟨j, rfl⟩ : ∃ j : Nat, i = j := ⟨i.toNat, by omega⟩
    obtain ⟨e, he⟩ : ∃ e, es[j]? = some e := ⟨_, List.getElem?_eq_getElem (by omega)⟩
    obtain ⟨q, o, cap, ro, L, rfl, hq, _, g1, g2, g3, g4, g5, g6, g7⟩ := hs.get he
    have hq' : (m ++ [Chunk.cells 2 false [.int .i64 (n : Int), .sl q o es.length cap]])[q]? = some (.cells 4 ro L) := by rw [List.getElem?_append_left (List.getElem?_eq_some_iff.1 hq).1]; exact hq
    have hok := okE_at hok he
    have ht := cellsOf_take (n := n) he
    have hj : ((j : Int) + 1).toNat = j + 1 := by omega
    rw [hj, ht] at hc
    have hl := cellsOf_len n (es.take j)
    simp (disch := first | assumption | omega | (simp only [List.length_cons, List.length_nil, List.length_set, List.length_append] <;> omega) | (simp only [get_mid, get_mid0, List.cons_append, List.append_assoc, List.getElem?_cons_zero, List.getElem?_cons_succ])) only [ek, ↓evW, ↓evQ, evB, evS, evL, List.map, AV.cells, List.all, AV.one, Bool.and_true, Bool.true_and, if_true, ↓thenQ_normal, ↓thenQ_exit, ↓thenQ_ret, ↓blockQ_normal, ↓blockQ_ret, ↓blockQ_exit, ↓CW_true, ↓CW_false, CW_true, CW_false, condT, condF, RQ_some, tupA_one, tupA_two, tupA_nil, Nat.reduceSub, Nat.reduceAdd, Nat.reduceMul, Nat.zero_add, Nat.add_zero, Nat.reduceLeDiff, Nat.reduceEqDiff, eqV, eqAll, fillA, and_self, and_true, true_and, Nat.le_refl, Bool.not_true, Bool.not_false, Bool.false_xor, Bool.true_xor, cond_true, cond_false, List.replicate, if_false, reduceIte, resAll, resA, ne_eq, decide_not, decide_true, decide_false, Int.reduceEq, Bool.not_true, Bool.not_false, not_true_eq_false, not_false_eq_true, cond_bool, cond_int, beq_self_eq_true, Int.reduceBEq, Bool.and_self, Bool.and_false, Bool.false_and, Bool.xor_false, Bool.xor_true, loadN_ldC, ldC_none, ldC_somes, stC_aggs, splice, storeN_stC, stC_int, stC_bool, stC_ptr, stC_nilp, stC_sl, stC_nils, getC_gcO, gcO_cells, W_draw_eq, ↓W_scope, ev_clear, evT, evF, evX, evM, ↓exitQ_normal, ↓exitQ_ret, ↓exitQ_exit, saA_self, saO_self, if_pos, if_neg, wrapI, get_concat, set_concat, Int.toNat_natCast, Int.toNat_zero, List.nil_append, Nat.mul_one, decide_eq_true, decide_eq_false, Int.reduceLE, Int.reduceLT, Int.reduceNeg, Bool.false_or, Bool.true_or, Bool.or_false, Bool.or_true, wrapU, Int.reduceAdd, Int.reduceSub, Int.reduceMul, List.append_assoc, List.length_append, get_mid, get_mid0, set_mid, set_mid0, hq', g5]
    refine CW_of (fun h => ?_) (fun h => ?_)
    · simp only [decide_eq_true_eq] at h
      simp (disch := first | assumption | omega | (simp only [List.length_cons, List.length_nil, List.length_set, List.length_append] <;> omega) | (simp only [get_mid, get_mid0, List.cons_append, List.append_assoc, List.getElem?_cons_zero, List.getElem?_cons_succ])) only [ek, ↓evW, ↓evQ, evB, evS, evL, List.map, AV.cells, List.all, AV.one, Bool.and_true, Bool.true_and, if_true, ↓thenQ_normal, ↓thenQ_exit, ↓thenQ_ret, ↓blockQ_normal, ↓blockQ_ret, ↓blockQ_exit, ↓CW_true, ↓CW_false, CW_true, CW_false, condT, condF, RQ_some, tupA_one, tupA_two, tupA_nil, Nat.reduceSub, Nat.reduceAdd, Nat.reduceMul, Nat.zero_add, Nat.add_zero, Nat.reduceLeDiff, Nat.reduceEqDiff, eqV, eqAll, fillA, and_self, and_true, true_and, Nat.le_refl, Bool.not_true, Bool.not_false, Bool.false_xor, Bool.true_xor, cond_true, cond_false, List.replicate, if_false, reduceIte, resAll, resA, ne_eq, decide_not, decide_true, decide_false, Int.reduceEq, Bool.not_true, Bool.not_false, not_true_eq_false, not_false_eq_true, cond_bool, cond_int, beq_self_eq_true, Int.reduceBEq, Bool.and_self, Bool.and_false, Bool.false_and, Bool.xor_false, Bool.xor_true, loadN_ldC, ldC_none, ldC_somes, stC_aggs, splice, storeN_stC, stC_int, stC_bool, stC_ptr, stC_nilp, stC_sl, stC_nils, getC_gcO, gcO_cells, W_draw_eq, ↓W_scope, ev_clear, evT, evF, evX, evM, ↓exitQ_normal, ↓exitQ_ret, ↓exitQ_exit, saA_self, saO_self, if_pos, if_neg, wrapI, get_concat, set_concat, Int.toNat_natCast, Int.toNat_zero, List.nil_append, Nat.mul_one, decide_eq_true, decide_eq_false, Int.reduceLE, Int.reduceLT, Int.reduceNeg, Bool.false_or, Bool.true_or, Bool.or_false, Bool.or_true, wrapU, Int.reduceAdd, Int.reduceSub, Int.reduceMul, List.append_assoc, List.length_append, get_mid, get_mid0, set_mid, set_mid0, hq', g7]
      rw [← h, List.getElem?_set_self (by omega)] at hc
      rw [List.getD_eq_getElem?_getD, ← h, hc]; rfl
    · simp only [decide_eq_false_iff_not] at h
      simp (disch := first | assumption | omega | (simp only [List.length_cons, List.length_nil, List.length_set, List.length_append] <;> omega) | (simp only [get_mid, get_mid0, List.cons_append, List.append_assoc, List.getElem?_cons_zero, List.getElem?_cons_succ])) only [ek, ↓evW, ↓evQ, evB, evS, evL, List.map, AV.cells, List.all, AV.one, Bool.and_true, Bool.true_and, if_true, ↓thenQ_normal, ↓thenQ_exit, ↓thenQ_ret, ↓blockQ_normal, ↓blockQ_ret, ↓blockQ_exit, ↓CW_true, ↓CW_false, CW_true, CW_false, condT, condF, RQ_some, tupA_one, tupA_two, tupA_nil, Nat.reduceSub, Nat.reduceAdd, Nat.reduceMul, Nat.zero_add, Nat.add_zero, Nat.reduceLeDiff, Nat.reduceEqDiff, eqV, eqAll, fillA, and_self, and_true, true_and, Nat.le_refl, Bool.not_true, Bool.not_false, Bool.false_xor, Bool.true_xor, cond_true, cond_false, List.replicate, if_false, reduceIte, resAll, resA, ne_eq, decide_not, decide_true, decide_false, Int.reduceEq, Bool.not_true, Bool.not_false, not_true_eq_false, not_false_eq_true, cond_bool, cond_int, beq_self_eq_true, Int.reduceBEq, Bool.and_self, Bool.and_false, Bool.false_and, Bool.xor_false, Bool.xor_true, loadN_ldC, ldC_none, ldC_somes, stC_aggs, splice, storeN_stC, stC_int, stC_bool, stC_ptr, stC_nilp, stC_sl, stC_nils, getC_gcO, gcO_cells, W_draw_eq, ↓W_scope, ev_clear, evT, evF, evX, evM, ↓exitQ_normal, ↓exitQ_ret, ↓exitQ_exit, saA_self, saO_self, if_pos, if_neg, wrapI, get_concat, set_concat, Int.toNat_natCast, Int.toNat_zero, List.nil_append, Nat.mul_one, decide_eq_true, decide_eq_false, Int.reduceLE, Int.reduceLT, Int.reduceNeg, Bool.false_or, Bool.true_or, Bool.or_false, Bool.or_true, wrapU, Int.reduceAdd, Int.reduceSub, Int.reduceMul, List.append_assoc, List.length_append, get_mid, get_mid0, set_mid, set_mid0]
      refine ⟨j, by omega, (j : Int) - 1, _, _, rfl, rfl, by omega, by omega, ?_⟩
      rw [hc, List.getElem?_set_ne (by omega)]
      congr 3; omega
  · simp only [decide_eq_false_iff_not] at h
    simp (disch := first | assumption | omega | (simp only [List.length_cons, List.length_nil, List.length_set, List.length_append] <;> omega) | (simp only [get_mid, get_mid0, List.cons_append, List.append_assoc, List.getElem?_cons_zero, List.getElem?_cons_succ])) only [ek, ↓evW, ↓evQ, evB, evS, evL, List.map, AV.cells, List.all, AV.one, Bool.and_true, Bool.true_and, if_true, ↓thenQ_normal, ↓thenQ_exit, ↓thenQ_ret, ↓blockQ_normal, ↓blockQ_ret, ↓blockQ_exit, ↓CW_true, ↓CW_false, CW_true, CW_false, condT, condF, RQ_some, tupA_one, tupA_two, tupA_nil, Nat.reduceSub, Nat.reduceAdd, Nat.reduceMul, Nat.zero_add, Nat.add_zero, Nat.reduceLeDiff, Nat.reduceEqDiff, eqV, eqAll, fillA, and_self, and_true, true_and, Nat.le_refl, Bool.not_true, Bool.not_false, Bool.false_xor, Bool.true_xor, cond_true, cond_false, List.replicate, if_false, reduceIte, resAll, resA, ne_eq, decide_not, decide_true, decide_false, Int.reduceEq, Bool.not_true, Bool.not_false, not_true_eq_false, not_false_eq_true, cond_bool, cond_int, beq_self_eq_true, Int.reduceBEq, Bool.and_self, Bool.and_false, Bool.false_and, Bool.xor_false, Bool.xor_true, loadN_ldC, ldC_none, ldC_somes, stC_aggs, splice, storeN_stC, stC_int, stC_bool, stC_ptr, stC_nilp, stC_sl, stC_nils, getC_gcO, gcO_cells, W_draw_eq, ↓W_scope, ev_clear, evT, evF, evX, evM, ↓exitQ_normal, ↓exitQ_ret, ↓exitQ_exit, saA_self, saO_self, if_pos, if_neg, wrapI, get_concat, set_concat, Int.toNat_natCast, Int.toNat_zero, List.nil_append, Nat.mul_one, decide_eq_true, decide_eq_false, Int.reduceLE, Int.reduceLT, Int.reduceNeg, Bool.false_or, Bool.true_or, Bool.or_false, Bool.or_true, wrapU, Int.reduceAdd, Int.reduceSub, Int.reduceMul, List.append_assoc, List.length_append, get_mid, get_mid0, set_mid, set_mid0]
    have hi : (i + 1).toNat = 0 := by omega
    rw [hi, List.take_zero, cellsOf_nil, List.getElem?_replicate, if_pos (by omega)] at hc
    rw [List.getD_eq_getElem?_getD, hc]; rfl
def Nc (v : AV) : Prop := v = .nils ∨ ∃ q o n, v = .sl q o (n + 1) none
def doE (n : Nat) (es : List Acc) (kind a old x : Int) : Option Acc :=
  if a < 0 ∨ (n : Int) ≤ a ∨ kind < 1 ∨ 4 < kind then none
  else some ⟨kind, a, (cellsOf n es).getD a.toNat 0, if kind = 2 ∨ (kind = 3 ∧ (cellsOf n es).getD a.toNat 0 = old) then x else if kind = 4 then IntKind.u64.wrap ((cellsOf n es).getD a.toNat 0 + x) else (cellsOf n es).getD a.toNat 0⟩
theorem SA.one {m : Mem X} {wr : Bool} {es : List Acc} {v : AV} (h : SA m wr es v) : v.one = true := by
  rcases h.2 with ⟨h, _⟩ | ⟨q, o, cap, h, _⟩ <;> rw [h] <;> rfl
theorem Fr.one {n : Nat} {v : AV} (h : Fr n v) : v.one = true ∧ v.cells = [v] := by
  rcases h with h | ⟨q, o, k, cap, h, _⟩ <;> rw [h] <;> exact ⟨rfl, rfl⟩
end
end Go.Am.F06
