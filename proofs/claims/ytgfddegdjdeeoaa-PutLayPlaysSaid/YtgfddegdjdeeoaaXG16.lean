import Derived.Test.YtgfddegdjdeeoaaXG15
set_option linter.unusedSimpArgs false
set_option linter.unusedVariables false
section
namespace Go.Am.F06
def cellsOf (n : Nat) (es : List Acc) : List Int := es.foldl (fun c e => c.set e.at'.toNat e.new) (List.replicate n 0)
theorem cellsOf_nil (n : Nat) : cellsOf n [] = List.replicate n 0 := rfl
theorem cellsOf_app (n : Nat) (es : List Acc) (e : Acc) : cellsOf n (es ++ [e]) = (cellsOf n es).set e.at'.toNat e.new := by simp [cellsOf]
theorem cellsOf_len (n : Nat) (es : List Acc) : (cellsOf n es).length = n := by
  have : ∀ (es : List Acc) (c : List Int), (es.foldl (fun c e => c.set e.at'.toNat e.new) c).length = c.length := by
    intro es
    induction es with
    | nil => intro c; rfl
    | cons e es ih => intro c; rw [List.foldl_cons, ih, List.length_set]
  rw [cellsOf, this, List.length_replicate]
theorem cellsOf_take {n i : Nat} {es : List Acc} {e : Acc} (h : es[i]? = some e) : cellsOf n (es.take (i + 1)) = (cellsOf n (es.take i)).set e.at'.toNat e.new := by
  rw [List.take_add_one, h]; exact cellsOf_app _ _ _
def okE (n : Nat) (es : List Acc) : Prop := ∀ e, e ∈ es → 0 ≤ e.at' ∧ e.at' < n
theorem okE_at {n i : Nat} {es : List Acc} {e : Acc} (h : okE n es) (he : es[i]? = some e) : 0 ≤ e.at' ∧ e.at' < n := h e (List.mem_of_getElem? he)
section
variable {X : Type}
abbrev SA (m : Mem X) (wr : Bool) (es : List Acc) (v : AV) : Prop := Sl m wr 4 es.length (es.flatMap accC) v
theorem SA.get {m : Mem X} {wr : Bool} {es : List Acc} {v : AV} (h : SA m wr es v) {i : Nat} {e : Acc} (he : es[i]? = some e) : ∃ q o cap ro L, v = .sl q o es.length cap ∧ m[q]? = some (.cells 4 ro L) ∧ (wr = true → ro = false) ∧ i < es.length ∧ o + i * 4 + 4 ≤ L.length ∧
    (L.drop (o + i * 4)).take 4 = accC e ∧ L[o + i * 4]? = some (.int .i64 e.kind) ∧ L[o + i * 4 + 1]? = some (.int .i64 e.at') ∧ L[o + i * 4 + 2]? = some (.int .u64 e.old) ∧ L[o + i * 4 + 3]? = some (.int .u64 e.new) := by
  have hi : i < es.length := (List.getElem?_eq_some_iff.1 he).1
  obtain ⟨q, o, cap, ro, L, rfl, h2, h3, h4, h5⟩ := h.at (by omega)
  have hp := rows_part (f := accC) (sz := 4) (fun _ => rfl) he
  have hL : ∀ k, k < 4 → L[o + i * 4 + k]? = (accC e)[k]? := by
    intro k hk
    rw [Nat.add_assoc, sl_get h3 (by omega), rows_at (f := accC) (sz := 4) (fun _ => rfl) he hk]
  refine ⟨q, o, cap, ro, L, rfl, h2, h5, hi, by omega, ?_, hL 0 (by omega), hL 1 (by omega), hL 2 (by omega), hL 3 (by omega)⟩
  apply List.ext_getElem?
  intro k
  by_cases hk : k < 4
  · rw [List.getElem?_take, if_pos hk, List.getElem?_drop, hL k hk]
  · rw [List.getElem?_eq_none (by simp; omega), List.getElem?_eq_none (by simp [accC]; omega)]
def bookC (n : Nat) (v : AV) : List AV := [.int .i64 n, v]
def AtI (M : Mem X) (n : Nat) (es : List Acc) (v : AV) (a : Int) (k : Nat) (e : List AV) (m : Mem X) : Prop := ∃ (i : Int) (x5 x6 : AV),
  e = [.agg (bookC n v), .int .i64 a, .ptr M.length 0, .int .u64 0, .int .i64 i, x5, x6] ∧ m = M ++ [.cells 2 false (bookC n v)] ∧ (k : Int) = i + 1 ∧ i < es.length ∧ (cellsOf n es)[a.toNat]? = (cellsOf n (es.take (i + 1).toNat))[a.toNat]?
set_option maxHeartbeats 2000000 in
theorem at_run {G : List (Nat × AFun X)} {m : Mem X} {wr : Bool} {n : Nat} {es : List Acc} {v : AV} {a : Int} (hs : SA m wr es v) (hok : okE n es) (hn : es.length ≤ 1000) (h0 : 0 ≤ a) (h1 : a < n) :
    Fn G ref06_At [.agg (bookC n v), .int .i64 a] m (fun r m' => r = .int .u64 ((cellsOf n es).getD a.toNat 0) ∧ m' = m ++ [.cells 2 false (bookC n v)]) := by
  have hlen := hs.len
  have hone : v.one = true := by
    rcases hs.2 with ⟨h, _⟩ | ⟨q, o, cap, h, _⟩ <;> rw [h] <;> rfl
  simp only [AV.one] at hone
  refine Fn_of rfl ?_
  simp (disch := first | assumption | omega | (simp only [List.length_cons, List.length_nil, List.length_set, List.length_append] <;> omega) | (simp only [get_mid, get_mid0, List.cons_append, List.append_assoc, List.getElem?_cons_zero, List.getElem?_cons_succ])) only [ref06_At, ek, ↓evW, ↓evQ, evB, evS, evL, List.map, AV.cells, List.all, AV.one, Bool.and_true, Bool.true_and, if_true, ↓thenQ_normal, ↓thenQ_exit, ↓thenQ_ret, ↓blockQ_normal, ↓blockQ_ret, ↓blockQ_exit, ↓CW_true, ↓CW_false, CW_true, CW_false, condT, condF, RQ_some, tupA_one, tupA_two, tupA_nil, Nat.reduceSub, Nat.reduceAdd, Nat.reduceMul, Nat.zero_add, Nat.add_zero, Nat.reduceLeDiff, Nat.reduceEqDiff, eqV, eqAll, fillA, and_self, and_true, true_and, Nat.le_refl, Bool.not_true, Bool.not_false, Bool.false_xor, Bool.true_xor, cond_true, cond_false, List.replicate, if_false, reduceIte, resAll, resA, ne_eq, decide_not, decide_true, decide_false, Int.reduceEq, Bool.not_true, Bool.not_false, not_true_eq_false, not_false_eq_true, cond_bool, cond_int, beq_self_eq_true, Int.reduceBEq, Bool.and_self, Bool.and_false, Bool.false_and, Bool.xor_false, Bool.xor_true, loadN_ldC, ldC_none, ldC_somes, stC_aggs, splice, storeN_stC, stC_int, stC_bool, stC_ptr, stC_nilp, stC_sl, stC_nils, getC_gcO, gcO_cells, W_draw_eq, ↓W_scope, ev_clear, evT, evF, evX, evM, ↓exitQ_normal, ↓exitQ_ret, ↓exitQ_exit, saA_self, saO_self, if_pos, if_neg, wrapI, get_concat, set_concat, Int.toNat_natCast, Int.toNat_zero, List.nil_append, Nat.mul_one, decide_eq_true, decide_eq_false, Int.reduceLE, Int.reduceLT, Int.reduceNeg, Bool.false_or, Bool.true_or, Bool.or_false, Bool.or_true, wrapU, Int.reduceAdd, Int.reduceSub, Int.reduceMul, List.append_assoc, List.length_append, get_mid, get_mid0, set_mid, set_mid0, bookC, ev_len, hlen, hone]
  refine W_loop (AtI m n es v a) es.length (by simp only [FUEL]; omega) ⟨(es.length : Int) - 1, _, _, rfl, rfl, by omega, by omega, by rw [List.take_of_length_le (by omega)]⟩ ?_
  rintro k e m' ⟨i, x5, x6, rfl, rfl, hk, hi, hc⟩
  simp (disch := first | assumption | omega | (simp only [List.length_cons, List.length_nil, List.length_set, List.length_append] <;> omega) | (simp only [get_mid, get_mid0, List.cons_append, List.append_assoc, List.getElem?_cons_zero, List.getElem?_cons_succ])) only [ek, ↓evW, ↓evQ, evB, evS, evL, List.map, AV.cells, List.all, AV.one, Bool.and_true, Bool.true_and, if_true, ↓thenQ_normal, ↓thenQ_exit, ↓thenQ_ret, ↓blockQ_normal, ↓blockQ_ret, ↓blockQ_exit, ↓CW_true, ↓CW_false, CW_true, CW_false, condT, condF, RQ_some, tupA_one, tupA_two, tupA_nil, Nat.reduceSub, Nat.reduceAdd, Nat.reduceMul, Nat.zero_add, Nat.add_zero, Nat.reduceLeDiff, Nat.reduceEqDiff, eqV, eqAll, fillA, and_self, and_true, true_and, Nat.le_refl, Bool.not_true, Bool.not_false, Bool.false_xor, Bool.true_xor, cond_true, cond_false, List.replicate, if_false, reduceIte, resAll, resA, ne_eq, decide_not, decide_true, decide_false, Int.reduceEq, Bool.not_true, Bool.not_false, not_true_eq_false, not_false_eq_true, cond_bool, cond_int, beq_self_eq_true, Int.reduceBEq, Bool.and_self, Bool.and_false, Bool.false_and, Bool.xor_false, Bool.xor_true, loadN_ldC, ldC_none, ldC_somes, stC_aggs, splice, storeN_stC, stC_int, stC_bool, stC_ptr, stC_nilp, stC_sl, stC_nils, getC_gcO, gcO_cells, W_draw_eq, ↓W_scope, ev_clear, evT, evF, evX, evM, ↓exitQ_normal, ↓exitQ_ret, ↓exitQ_exit, saA_self, saO_self, if_pos, if_neg, wrapI, get_concat, set_concat, Int.toNat_natCast, Int.toNat_zero, List.nil_append, Nat.mul_one, decide_eq_true, decide_eq_false, Int.reduceLE, Int.reduceLT, Int.reduceNeg, Bool.false_or, Bool.true_or, Bool.or_false, Bool.or_true, wrapU, Int.reduceAdd, Int.reduceSub, Int.reduceMul, List.append_assoc, List.length_append, get_mid, get_mid0, set_mid, set_mid0, bookC]
  refine CW_of (fun h => ?_) (fun h => ?_)
  · simp only [decide_eq_true_eq] at h
    obtain ⟨j, rfl⟩ : ∃ j : Nat, i = j := ⟨i.toNat, by omega⟩
    obtain ⟨e, he⟩ : ∃ e, es[j]? = some e := ⟨_, List.getElem?_eq_getElem (by omega)⟩
    obtain ⟨q, o, cap, ro, L, rfl, hq, _, g1, g2, g3, g4, g5, g6, g7⟩ := hs.get he
    have hq' : (m ++ [Chunk.cells 2 false [.int .i64 (n : Int), .sl q o es.length cap]])[q]? = some (.cells 4 ro L) := by rw [List.getElem?_append_left (List.getElem?_eq_some_iff.1 hq).1]; exact hq
    have hok := okE_at hok he
    have ht := cellsOf_take (n := n) he
    have hj : ((j : Int) + 1).toNat = j + 1 := by omega
    rw [hj, ht] at hc
    have hl := cellsOf_len n (es.take j)
    simp (disch := first | assumption | omega | (simp only [List.length_cons, List.length_nil, List.length_set, List.length_append] <;> omega) | (simp only [get_mid, get_mid0, List.cons_append, List.append_assoc, List.getElem?_cons_zero, List.getElem?_cons_succ])) only [ek, ↓evW, ↓evQ, evB, evS, evL, List.map, AV.cells, List.all, AV.one, Bool.and_true, Bool.true_and, if_true, ↓thenQ_normal, ↓thenQ_exit, ↓thenQ_ret, ↓blockQ_normal, ↓blockQ_ret, ↓blockQ_exit, ↓CW_true, ↓CW_false, CW_true, CW_false, condT, condF, RQ_some, tupA_one, tupA_two, tupA_nil, Nat.reduceSub, Nat.reduceAdd, Nat.reduceMul, Nat.zero_add, Nat.add_zero, Nat.reduceLeDiff, Nat.reduceEqDiff, eqV, eqAll, fillA, and_self, and_true, true_and, Nat.le_refl, Bool.not_true, Bool.not_false, Bool.false_xor, Bool.true_xor, cond_true, cond_false, List.replicate, if_false, reduceIte, resAll, resA, ne_eq, decide_not, decide_true, decide_false, Int.reduceEq, Bool.not_true, Bool.not_false, not_true_eq_false, not_false_eq_true, cond_bool, cond_int, beq_self_eq_true, Int.reduceBEq, Bool.and_self, Bool.and_false, Bool.false_and, Bool.xor_false, Bool.xor_true, loadN_ldC, ldC_none, ldC_somes, stC_aggs, splice, storeN_stC, stC_int, stC_bool, stC_ptr, stC_nilp, stC_sl, stC_nils, getC_gcO, gcO_cells, W_draw_eq, ↓W_scope, ev_clear, evT, evF, evX, evM, ↓exitQ_normal, ↓exitQ_ret, ↓exitQ_exit, saA_self, saO_self, if_pos, if_neg, wrapI, get_concat, set_concat, Int.toNat_natCast, Int.toNat_zero, List.nil_append, Nat.mul_one, decide_eq_true, decide_eq_false, Int.reduceLE, Int.reduceLT, Int.reduceNeg, Bool.false_or, Bool.true_or, Bool.or_false, Bool.or_true, wrapU, Int.reduceAdd, Int.reduceSub, Int.reduceMul, List.append_assoc, List.length_append, get_mid, get_mid0, set_mid, set_mid0, hq', g5]
    refine CW_of (fun h => ?_) (fun h => ?_)
    · simp only [decide_eq_true_eq] at h
      simp (disch := first | assumption | omega | (simp only [List.length_cons, List.length_nil, List.length_set, List.length_append] <;> omega) | (simp only [get_mid, get_mid0, List.cons_append, List.append_assoc, List.getElem?_cons_zero, List.getElem?_cons_succ])) only [ek, ↓evW, ↓evQ, evB, evS, evL, List.map, AV.cells, List.all, AV.one, Bool.and_true, Bool.true_and, if_true, ↓thenQ_normal, ↓thenQ_exit, ↓thenQ_ret, ↓blockQ_normal, ↓blockQ_ret, ↓blockQ_exit, ↓CW_true, ↓CW_false, CW_true, CW_false, condT, condF, RQ_some, tupA_one, tupA_two, tupA_nil, Nat.reduceSub, Nat.reduceAdd, Nat.reduceMul, Nat.zero_add, Nat.add_zero, Nat.reduceLeDiff, Nat.reduceEqDiff, eqV, eqAll, fillA, and_self, and_true, true_and, Nat.le_refl, Bool.not_true, Bool.not_false, Bool.false_xor, Bool.true_xor, cond_true, cond_false, List.replicate, if_false, reduceIte, resAll, resA, ne_eq, decide_not, decide_true, decide_false, Int.reduceEq, Bool.not_true, Bool.not_false, not_true_eq_false, not_false_eq_true, cond_bool, cond_int, beq_self_eq_true, Int.reduceBEq, Bool.and_self, Bool.and_false, Bool.false_and, Bool.xor_false, Bool.xor_true, loadN_ldC, ldC_none, ldC_somes, stC_aggs, splice, storeN_stC, stC_int, stC_bool, stC_ptr, stC_nilp, stC_sl, stC_nils, getC_gcO, gcO_cells, W_draw_eq, ↓W_scope, ev_clear, evT, evF, evX, evM, ↓exitQ_normal, ↓exitQ_ret, ↓exitQ_exit, saA_self, saO_self, if_pos, if_neg, wrapI, get_concat, set_concat, Int.toNat_natCast, Int.toNat_zero, List.nil_append, Nat.mul_one, decide_eq_true, decide_eq_false, Int.reduceLE, Int.reduceLT, Int.reduceNeg, Bool.false_or, Bool.true_or, Bool.or_false, Bool.or_true, wrapU, Int.reduceAdd, Int.reduceSub, Int.reduceMul, List.append_assoc, List.length_append, get_mid, get_mid0, set_mid, set_mid0, hq', g7]
      rw [← h, List.getElem?_set_self (by omega)] at hc
      rw [List.getD_eq_getElem?_getD, ← h, hc]; rfl
    · simp only [decide_eq_false_iff_not] at h
      simp (disch := first | assumption | omega | (simp only [List.length_cons, List.length_nil, List.length_set, List.length_append] <;> omega) | (simp only [get_mid, get_mid0, List.cons_append, List.append_assoc, List.getElem?_cons_zero, List.getElem?_cons_succ])) only [ek, ↓evW, ↓evQ, evB, evS, evL, List.map, AV.cells, List.all, AV.one, Bool.and_true, Bool.true_and, if_true, ↓thenQ_normal, ↓thenQ_exit, ↓thenQ_ret, ↓blockQ_normal, ↓blockQ_ret, ↓blockQ_exit, ↓CW_true, ↓CW_false, CW_true, CW_false, condT, condF, RQ_some, tupA_one, tupA_two, tupA_nil, Nat.reduceSub, Nat.reduceAdd, Nat.reduceMul, Nat.zero_add, Nat.add_zero, Nat.reduceLeDiff, Nat.reduceEqDiff, eqV, eqAll, fillA, and_self, and_true, true_and, Nat.le_refl, Bool.not_true, Bool.not_false, Bool.false_xor, Bool.true_xor, cond_true, cond_false, List.replicate, if_false, reduceIte, resAll, resA, ne_eq, decide_not, decide_true, decide_false, Int.reduceEq, Bool.not_true, Bool.not_false, not_true_eq_false, not_false_eq_true, cond_bool, cond_int, beq_self_eq_true, Int.reduceBEq, Bool.and_self, Bool.and_false, Bool.false_and, Bool.xor_false, Bool.xor_true, loadN_ldC, ldC_none, ldC_somes, stC_aggs, splice, storeN_stC, stC_int, stC_bool, stC_ptr, stC_nilp, stC_sl, stC_nils, getC_gcO, gcO_cells, W_draw_eq, ↓W_scope, ev_clear, evT, evF, evX, evM, ↓exitQ_normal, ↓exitQ_ret, ↓exitQ_exit, saA_self, saO_self, if_pos, if_neg, wrapI, get_concat, set_concat, Int.toNat_natCast, Int.toNat_zero, List.nil_append, Nat.mul_one, decide_eq_true, decide_eq_false, Int.reduceLE, Int.reduceLT, Int.reduceNeg, Bool.false_or, Bool.true_or, Bool.or_false, Bool.or_true, wrapU, Int.reduceAdd, Int.reduceSub, Int.reduceMul, List.append_assoc, List.length_append, get_mid, get_mid0, set_mid, set_mid0]
      refine ⟨j, by omega, (j : Int) - 1, _, _, rfl, rfl, by omega, by omega, ?_⟩
      rw [hc, List.getElem?_set_ne (by omega)]
      congr 3; omega
  · simp only [decide_eq_false_iff_not] at h
    simp (disch := first | assumption | omega | (simp only [List.length_cons, List.length_nil, List.length_set, List.length_append] <;> omega) | (simp only [get_mid, get_mid0, List.cons_append, List.append_assoc, List.getElem?_cons_zero, List.getElem?_cons_succ])) only [ek, ↓evW, ↓evQ, evB, evS, evL, List.map, AV.cells, List.all, AV.one, Bool.and_true, Bool.true_and, if_true, ↓thenQ_normal, ↓thenQ_exit, ↓thenQ_ret, ↓blockQ_normal, ↓blockQ_ret, ↓blockQ_exit, ↓CW_true, ↓CW_false, CW_true, CW_false, condT, condF, RQ_some, tupA_one, tupA_two, tupA_nil, Nat.reduceSub, Nat.reduceAdd, Nat.reduceMul, Nat.zero_add, Nat.add_zero, Nat.reduceLeDiff, Nat.reduceEqDiff, eqV, eqAll, fillA, and_self, and_true, true_and, Nat.le_refl, Bool.not_true, Bool.not_false, Bool.false_xor, Bool.true_xor, cond_true, cond_false, List.replicate, if_false, reduceIte, resAll, resA, ne_eq, decide_not, decide_true, decide_false, Int.reduceEq, Bool.not_true, Bool.not_false, not_true_eq_false, not_false_eq_true, cond_bool, cond_int, beq_self_eq_true, Int.reduceBEq, Bool.and_self, Bool.and_false, Bool.false_and, Bool.xor_false, Bool.xor_true, loadN_ldC, ldC_none, ldC_somes, stC_aggs, splice, storeN_stC, stC_int, stC_bool, stC_ptr, stC_nilp, stC_sl, stC_nils, getC_gcO, gcO_cells, W_draw_eq, ↓W_scope, ev_clear, evT, evF, evX, evM, ↓exitQ_normal, ↓exitQ_ret, ↓exitQ_exit, saA_self, saO_self, if_pos, if_neg, wrapI, get_concat, set_concat, Int.toNat_natCast, Int.toNat_zero, List.nil_append, Nat.mul_one, decide_eq_true, decide_eq_false, Int.reduceLE, Int.reduceLT, Int.reduceNeg, Bool.false_or, Bool.true_or, Bool.or_false, Bool.or_true, wrapU, Int.reduceAdd, Int.reduceSub, Int.reduceMul, List.append_assoc, List.length_append, get_mid, get_mid0, set_mid, set_mid0]
    have hi : (i + 1).toNat = 0 := by omega
    rw [hi, List.take_zero, cellsOf_nil, List.getElem?_replicate, if_pos (by omega)] at hc
    rw [List.getD_eq_getElem?_getD, hc]; rfl
def Nc (v : AV) : Prop := v = .nils ∨ ∃ q o n, v = .sl q o (n + 1) none
def doE (n : Nat) (es : List Acc) (kind a old x : Int) : Option Acc :=
  if a < 0 ∨ (n : Int) ≤ a ∨ kind < 1 ∨ 4 < kind then none
  else some ⟨kind, a, (cellsOf n es).getD a.toNat 0, if kind = 2 ∨ (kind = 3 ∧ (cellsOf n es).getD a.toNat 0 = old) then x else if kind = 4 then IntKind.u64.wrap ((cellsOf n es).getD a.toNat 0 + x) else (cellsOf n es).getD a.toNat 0⟩
theorem SA.one {m : Mem X} {wr : Bool} {es : List Acc} {v : AV} (h : SA m wr es v) : v.one = true := by
  rcases h.2 with ⟨h, _⟩ | ⟨q, o, cap, h, _⟩ <;> rw [h] <;> rfl
theorem Fr.one {n : Nat} {v : AV} (h : Fr n v) : v.one = true ∧ v.cells = [v] := by
  rcases h with h | ⟨q, o, k, cap, h, _⟩ <;> rw [h] <;> exact ⟨rfl, rfl⟩
def sqN : Nat → AC → AC
  | 0, .seq a _ => a
  | n + 1, .seq _ b => sqN n b
  | _, c => c
def sqT : Nat → AC → AC
  | 0, c => c
  | n + 1, .seq _ b => sqT n b
  | _, c => c
end
end Go.Am.F06
end
section
namespace Go.Am.F06
def KeepB {X : Type} (k : Nat) (m m' : Mem X) : Prop := m.length ≤ m'.length ∧ ∀ i, i < m.length → i ≠ k → m'[i]? = m[i]?
section
variable {X : Type} {k : Nat}
theorem KeepB.refl (m : Mem X) : KeepB k m m := ⟨Nat.le_refl _, fun _ _ _ => rfl⟩
theorem KeepB.trans {m m' m'' : Mem X} (h : KeepB k m m') (j : KeepB k m' m'') : KeepB k m m'' :=
  ⟨Nat.le_trans h.1 j.1, fun i hi hk => (j.2 i (Nat.lt_of_lt_of_le hi h.1) hk).trans (h.2 i hi hk)⟩
theorem KeepB.of {m m' : Mem X} (h : Keep m m') : KeepB k m m' := ⟨h.1, fun i hi _ => h.2 i hi⟩
theorem KeepB.app (m J : Mem X) : KeepB k m (m ++ J) := .of (Keep.app m J)
theorem KeepB.at (m : Mem X) (c : Chunk X) : KeepB k m (m.set k c) := ⟨by simp, fun i hi hk => by rw [List.getElem?_set_ne (fun h => hk h.symm)]⟩
theorem KeepB.set {m m' : Mem X} (h : KeepB k m m') {q : Nat} (hq : m.length ≤ q) (c : Chunk X) : KeepB k m (m'.set q c) :=
  ⟨by simpa using h.1, fun i hi hk => by rw [List.getElem?_set_ne (by omega)]; exact h.2 i hi hk⟩
theorem KeepB.get {m m' : Mem X} (h : KeepB k m m') {i : Nat} {c : Chunk X} (hi : m[i]? = some c) (hk : i ≠ k) : m'[i]? = some c := (h.2 i (List.getElem?_eq_some_iff.1 hi).1 hk).trans hi
theorem KeepB.sl {m m' : Mem X} (h : KeepB k m m') {x : X} (hk : m[k]? = some (.abs x)) {wr : Bool} {sz n : Nat} {l : List AV} {v : AV} (hs : Sl m wr sz n l v) : Sl m' wr sz n l v := by
  refine ⟨hs.1, ?_⟩
  rcases hs.2 with h1 | ⟨q, o, cap, h1, h2⟩
  · exact .inl h1
  · refine .inr ⟨q, o, cap, h1, fun h0 => ?_⟩
    obtain ⟨ro, L, h3, h4⟩ := h2 h0
    refine ⟨ro, L, h.get h3 (fun hq => ?_), h4⟩
    rw [hq, hk] at h3; injection h3 with h3; cases h3
theorem get_at {α : Type} {l k : List α} {n i : Nat} (h : l.length = n) : (l ++ k)[n + i]? = k[i]? := by rw [← h]; exact get_mid
theorem get_at0 {α : Type} {l k : List α} {n : Nat} (h : l.length = n) : (l ++ k)[n]? = k[0]? := by rw [← h]; exact get_mid0
theorem set_at {α : Type} {l k : List α} {n i : Nat} {y : α} (h : l.length = n) : (l ++ k).set (n + i) y = l ++ k.set i y := by rw [← h]; exact set_mid
theorem set_at0 {α : Type} {l k : List α} {n : Nat} {y : α} (h : l.length = n) : (l ++ k).set n y = l ++ k.set 0 y := by rw [← h]; exact set_mid0
end
def cnt (s : MemSt) : List Int := [s.loads, s.stores, s.swaps, s.fails, s.adds]
def stepL (n : Nat) (es : List Acc) (kind a old x : Int) : List Acc := match doE n es kind a old x with
  | none => es
  | some e => es ++ [e]
theorem memF_of {step : MemSt → List AV → Option (AV × MemSt)} {M : MM} {j : Nat} {s s' : MemSt} {rest : List AV} {v : AV} (hM : M[j]? = some (.abs (.mem s))) (h : step s rest = some (v, s')) : memF step (.ptr j 0 :: rest) M = some (v, M.set j (.abs (.mem s'))) := by
  simp only [memF, hM, h]
end Go.Am.F06
end
section
namespace Go.Am.F06
section
variable {X : Type}
abbrev SU (m : Mem X) (wr : Bool) (xs : List Int) (v : AV) : Prop := Sl m wr 1 xs.length (uC xs) v
theorem uC_len (xs : List Int) : (uC xs).length = xs.length := by simp [uC]
theorem uC_one (xs : List Int) : (uC xs).all AV.one = true := by simp [uC, AV.one]
theorem uC_set (xs : List Int) (i : Nat) (x : Int) : (uC xs).set i (.int .u64 x) = uC (xs.set i x) := by simp [uC, List.map_set]
theorem SU.get {m : Mem X} {wr : Bool} {xs : List Int} {v : AV} (h : SU m wr xs v) {i : Nat} {x : Int} (hx : xs[i]? = some x) : ∃ q o cap ro L, v = .sl q o xs.length cap ∧ m[q]? = some (.cells 1 ro L) ∧ (wr = true → ro = false) ∧ i < xs.length ∧ o + i < L.length ∧ L[o + i]? = some (.int .u64 x) := by
  have hi : i < xs.length := (List.getElem?_eq_some_iff.1 hx).1
  obtain ⟨q, o, cap, ro, L, rfl, h2, h3, h4, h5⟩ := h.at (by omega)
  exact ⟨q, o, cap, ro, L, rfl, h2, h5, hi, by omega, by rw [sl_get h3 (by omega)]; simp [uC, hx]⟩
def Off (q : Nat) (v : AV) : Prop := ∀ q' o n cap, v = .sl q' o n cap → 0 < n → q' ≠ q
theorem KeepB.off {k : Nat} {m m' : Mem X} (h : KeepB k m m') {wr : Bool} {sz n : Nat} {l : List AV} {v : AV} (ho : Off k v) (hs : Sl m wr sz n l v) : Sl m' wr sz n l v := by
  refine ⟨hs.1, ?_⟩
  rcases hs.2 with h1 | ⟨q, o, cap, h1, h2⟩
  · exact .inl h1
  · refine .inr ⟨q, o, cap, h1, fun h0 => ?_⟩
    obtain ⟨ro, L, h3, h4⟩ := h2 h0
    exact ⟨ro, L, h.get h3 (ho _ _ _ _ h1 h0), h4⟩
def slq : AV → Nat
  | .sl q _ _ _ => q
  | _ => 0
def ScI (M : Mem X) (xs : List Int) (l r : AV) (wr : Bool) (k : Nat) (e : List AV) (m : Mem X) : Prop := ∃ (i : Nat) (xs' : List Int) (x4 x5 x6 : AV),
  e = [l, r, .bool false, .int .i64 i, x4, x5, x6] ∧ k = xs.length - i ∧ i ≤ xs.length ∧ KeepB (slq l) M m ∧ SU m true xs' l ∧ xs'.length = xs.length ∧ (∀ j, i ≤ j → xs'[j]? = xs[j]?) ∧ SU m wr xs r
set_option maxHeartbeats 2000000 in
theorem samecells_run {G : List (Nat × AFun X)} {M : Mem X} {wr : Bool} {xs : List Int} {l r : AV} (hl : SU M true xs l) (hr : SU M wr xs r) (ho : Off (slq l) r) (hx : xs.length ≤ 65536) :
    Fn G docs_SameCells [l, r] M (fun v m' => v = .bool true ∧ KeepB (slq l) M m') := by
  have h1 := hl.len
  have h2 := hr.len
  refine Fn_of rfl ?_
  simp (disch := first | assumption | omega | (simp only [List.length_cons, List.length_nil, List.length_set, List.length_append] <;> omega) | (simp only [get_mid, get_mid0, List.cons_append, List.append_assoc, List.getElem?_cons_zero, List.getElem?_cons_succ])) only [docs_SameCells, ek, ↓evW, ↓evQ, evB, evS, evL, List.map, AV.cells, List.all, AV.one, Bool.and_true, Bool.true_and, if_true, ↓thenQ_normal, ↓thenQ_exit, ↓thenQ_ret, ↓blockQ_normal, ↓blockQ_ret, ↓blockQ_exit, ↓CW_true, ↓CW_false, CW_true, CW_false, condT, condF, RQ_some, tupA_one, tupA_two, tupA_nil, Nat.reduceSub, Nat.reduceAdd, Nat.reduceMul, Nat.zero_add, Nat.add_zero, Nat.reduceLeDiff, Nat.reduceEqDiff, eqV, eqAll, fillA, and_self, and_true, true_and, Nat.le_refl, Bool.not_true, Bool.not_false, Bool.false_xor, Bool.true_xor, cond_true, cond_false, List.replicate, if_false, reduceIte, resAll, resA, ne_eq, decide_not, decide_true, decide_false, Int.reduceEq, Bool.not_true, Bool.not_false, not_true_eq_false, not_false_eq_true, cond_bool, cond_int, beq_self_eq_true, Int.reduceBEq, Bool.and_self, Bool.and_false, Bool.false_and, Bool.xor_false, Bool.xor_true, loadN_ldC, ldC_none, ldC_somes, stC_aggs, splice, storeN_stC, stC_int, stC_bool, stC_ptr, stC_nilp, stC_sl, stC_nils, getC_gcO, gcO_cells, W_draw_eq, ↓W_scope, ev_clear, evT, evF, evX, evM, ↓exitQ_normal, ↓exitQ_ret, ↓exitQ_exit, saA_self, saO_self, if_pos, if_neg, wrapI, get_concat, set_concat, Int.toNat_natCast, Int.toNat_zero, List.nil_append, Nat.mul_one, decide_eq_true, decide_eq_false, Int.reduceLE, Int.reduceLT, Int.reduceNeg, Bool.false_or, Bool.true_or, Bool.or_false, Bool.or_true, wrapU, Int.reduceAdd, Int.reduceSub, Int.reduceMul, ev_len, h1, h2]
  refine W_loop (ScI M xs l r wr) xs.length (by simp only [FUEL]; omega) ⟨0, xs, _, _, _, rfl, rfl, by omega, KeepB.refl _, hl, rfl, fun _ _ => rfl, hr⟩ ?_
  rintro k e m' ⟨i, xs', x4, x5, x6, rfl, rfl, hi, hk, sl, hxl, hxe, sr⟩
  simp (disch := first | assumption | omega | (simp only [List.length_cons, List.length_nil, List.length_set, List.length_append] <;> omega) | (simp only [get_mid, get_mid0, List.cons_append, List.append_assoc, List.getElem?_cons_zero, List.getElem?_cons_succ])) only [ek, ↓evW, ↓evQ, evB, evS, evL, List.map, AV.cells, List.all, AV.one, Bool.and_true, Bool.true_and, if_true, ↓thenQ_normal, ↓thenQ_exit, ↓thenQ_ret, ↓blockQ_normal, ↓blockQ_ret, ↓blockQ_exit, ↓CW_true, ↓CW_false, CW_true, CW_false, condT, condF, RQ_some, tupA_one, tupA_two, tupA_nil, Nat.reduceSub, Nat.reduceAdd, Nat.reduceMul, Nat.zero_add, Nat.add_zero, Nat.reduceLeDiff, Nat.reduceEqDiff, eqV, eqAll, fillA, and_self, and_true, true_and, Nat.le_refl, Bool.not_true, Bool.not_false, Bool.false_xor, Bool.true_xor, cond_true, cond_false, List.replicate, if_false, reduceIte, resAll, resA, ne_eq, decide_not, decide_true, decide_false, Int.reduceEq, Bool.not_true, Bool.not_false, not_true_eq_false, not_false_eq_true, cond_bool, cond_int, beq_self_eq_true, Int.reduceBEq, Bool.and_self, Bool.and_false, Bool.false_and, Bool.xor_false, Bool.xor_true, loadN_ldC, ldC_none, ldC_somes, stC_aggs, splice, storeN_stC, stC_int, stC_bool, stC_ptr, stC_nilp, stC_sl, stC_nils, getC_gcO, gcO_cells, W_draw_eq, ↓W_scope, ev_clear, evT, evF, evX, evM, ↓exitQ_normal, ↓exitQ_ret, ↓exitQ_exit, saA_self, saO_self, if_pos, if_neg, wrapI, get_concat, set_concat, Int.toNat_natCast, Int.toNat_zero, List.nil_append, Nat.mul_one, decide_eq_true, decide_eq_false, Int.reduceLE, Int.reduceLT, Int.reduceNeg, Bool.false_or, Bool.true_or, Bool.or_false, Bool.or_true, wrapU, Int.reduceAdd, Int.reduceSub, Int.reduceMul, ev_len, h1]
  refine CW_of (fun h => ?_) (fun h => ?_)
  · simp only [decide_eq_true_eq] at h
    obtain ⟨x, hxi⟩ : ∃ x, xs[i]? = some x := ⟨_, List.getElem?_eq_getElem (by omega)⟩
    have hxi' : xs'[i]? = some x := by rw [hxe i (Nat.le_refl _)]; exact hxi
    obtain ⟨q, o, cap, ro, L, rfl, b2, b3, b4, b5, b6⟩ := sl.get hxi'
    have := b3 rfl; subst this
    obtain ⟨q2, o2, cap2, ro2, L2, rfl, c2, c3, c4, c5, c6⟩ := sr.get hxi
    have hne : q2 ≠ q := ho _ _ _ _ rfl (by omega)
    simp (disch := first | assumption | omega | (simp only [List.length_cons, List.length_nil, List.length_set, List.length_append] <;> omega) | (simp only [get_mid, get_mid0, List.cons_append, List.append_assoc, List.getElem?_cons_zero, List.getElem?_cons_succ])) only [ek, ↓evW, ↓evQ, evB, evS, evL, List.map, AV.cells, List.all, AV.one, Bool.and_true, Bool.true_and, if_true, ↓thenQ_normal, ↓thenQ_exit, ↓thenQ_ret, ↓blockQ_normal, ↓blockQ_ret, ↓blockQ_exit, ↓CW_true, ↓CW_false, CW_true, CW_false, condT, condF, RQ_some, tupA_one, tupA_two, tupA_nil, Nat.reduceSub, Nat.reduceAdd, Nat.reduceMul, Nat.zero_add, Nat.add_zero, Nat.reduceLeDiff, Nat.reduceEqDiff, eqV, eqAll, fillA, and_self, and_true, true_and, Nat.le_refl, Bool.not_true, Bool.not_false, Bool.false_xor, Bool.true_xor, cond_true, cond_false, List.replicate, if_false, reduceIte, resAll, resA, ne_eq, decide_not, decide_true, decide_false, Int.reduceEq, Bool.not_true, Bool.not_false, not_true_eq_false, not_false_eq_true, cond_bool, cond_int, beq_self_eq_true, Int.reduceBEq, Bool.and_self, Bool.and_false, Bool.false_and, Bool.xor_false, Bool.xor_true, loadN_ldC, ldC_none, ldC_somes, stC_aggs, splice, storeN_stC, stC_int, stC_bool, stC_ptr, stC_nilp, stC_sl, stC_nils, getC_gcO, gcO_cells, W_draw_eq, ↓W_scope, ev_clear, evT, evF, evX, evM, ↓exitQ_normal, ↓exitQ_ret, ↓exitQ_exit, saA_self, saO_self, if_pos, if_neg, wrapI, get_concat, set_concat, Int.toNat_natCast, Int.toNat_zero, List.nil_append, Nat.mul_one, decide_eq_true, decide_eq_false, Int.reduceLE, Int.reduceLT, Int.reduceNeg, Bool.false_or, Bool.true_or, Bool.or_false, Bool.or_true, wrapU, Int.reduceAdd, Int.reduceSub, Int.reduceMul, b2, b6, c2, c6]
    refine ⟨_, by omega, i + 1, xs'.set i (IntKind.u64.wrap (x + 77)), _, _, _, rfl, rfl, by omega, hk.trans (KeepB.at _ _), ?_, by simp [hxl], fun j hj => by rw [List.getElem?_set_ne (by omega)]; exact hxe j (by omega), (KeepB.at _ _).off ho sr⟩
    obtain ⟨hlen, hsl⟩ := sl
    rcases hsl with ⟨h, _⟩ | ⟨q', o', cap', h, h5⟩
    · cases h
    · injection h with e1 e2 e3 e4; subst e1; subst e2; subst e4
      obtain ⟨ro, L', d1, d2, d3, d4⟩ := h5 (by omega)
      rw [b2] at d1; injection d1 with d1; injection d1 with _ _ d1; subst d1
      refine ⟨by simp [uC_len], .inr ⟨q, o, cap, by rw [List.length_set], fun _ => ⟨false, _, List.getElem?_set_self (List.getElem?_eq_some_iff.1 b2).1, ?_, by simpa using d3, fun _ => rfl⟩⟩⟩
      rw [List.length_set, List.drop_set, if_neg (by omega), List.take_set, d2, ← uC_set]
      congr 1; omega
  · simp only [decide_eq_false_iff_not] at h
    simp (disch := first | assumption | omega | (simp only [List.length_cons, List.length_nil, List.length_set, List.length_append] <;> omega) | (simp only [get_mid, get_mid0, List.cons_append, List.append_assoc, List.getElem?_cons_zero, List.getElem?_cons_succ])) only [ek, ↓evW, ↓evQ, evB, evS, evL, List.map, AV.cells, List.all, AV.one, Bool.and_true, Bool.true_and, if_true, ↓thenQ_normal, ↓thenQ_exit, ↓thenQ_ret, ↓blockQ_normal, ↓blockQ_ret, ↓blockQ_exit, ↓CW_true, ↓CW_false, CW_true, CW_false, condT, condF, RQ_some, tupA_one, tupA_two, tupA_nil, Nat.reduceSub, Nat.reduceAdd, Nat.reduceMul, Nat.zero_add, Nat.add_zero, Nat.reduceLeDiff, Nat.reduceEqDiff, eqV, eqAll, fillA, and_self, and_true, true_and, Nat.le_refl, Bool.not_true, Bool.not_false, Bool.false_xor, Bool.true_xor, cond_true, cond_false, List.replicate, if_false, reduceIte, resAll, resA, ne_eq, decide_not, decide_true, decide_false, Int.reduceEq, Bool.not_true, Bool.not_false, not_true_eq_false, not_false_eq_true, cond_bool, cond_int, beq_self_eq_true, Int.reduceBEq, Bool.and_self, Bool.and_false, Bool.false_and, Bool.xor_false, Bool.xor_true, loadN_ldC, ldC_none, ldC_somes, stC_aggs, splice, storeN_stC, stC_int, stC_bool, stC_ptr, stC_nilp, stC_sl, stC_nils, getC_gcO, gcO_cells, W_draw_eq, ↓W_scope, ev_clear, evT, evF, evX, evM, ↓exitQ_normal, ↓exitQ_ret, ↓exitQ_exit, saA_self, saO_self, if_pos, if_neg, wrapI, get_concat, set_concat, Int.toNat_natCast, Int.toNat_zero, List.nil_append, Nat.mul_one, decide_eq_true, decide_eq_false, Int.reduceLE, Int.reduceLT, Int.reduceNeg, Bool.false_or, Bool.true_or, Bool.or_false, Bool.or_true, wrapU, Int.reduceAdd, Int.reduceSub, Int.reduceMul]
    exact hk
end
theorem sl_off {X : Type} {m : Mem X} {wr : Bool} {sz n : Nat} {l : List AV} {v : AV} (h : Sl m wr sz n l v) {q : Nat} (hq : m.length ≤ q) : Off q v := by
  intro q' o' n' c' hv h0
  rcases h.2 with ⟨h1, _⟩ | ⟨q2, o2, c2, h1, h2⟩
  · rw [h1] at hv; cases hv
  · rw [h1] at hv; injection hv with e1 e2 e3 e4; subst e1; subst e3
    obtain ⟨ro, L, h3, _⟩ := h2 h0
    have := (List.getElem?_eq_some_iff.1 h3).1
    omega
theorem len_of {M : MM} {j : Nat} {s : MemSt} (hM : M[j]? = some (.abs (.mem s))) : memF (fun s rest => (lenAsk s rest).map fun v => (v, s)) [.ptr j 0] M = some (.int .i64 s.cells.length, M) := by
  simp only [memF, hM, lenAsk, Option.map_some, set_same hM]
theorem ops_of {M : MM} {j : Nat} {s : MemSt} (hM : M[j]? = some (.abs (.mem s))) : memF (fun s rest => (opsAsk s rest).map fun v => (v, s)) [.ptr j 0] M = some (.int .u64 s.ops, M) := by
  simp only [memF, hM, opsAsk, Option.map_some, set_same hM]
theorem all_of {M : MM} {j : Nat} {s : MemSt} (hM : M[j]? = some (.abs (.mem s))) (hn : s.cells.length ≤ 65536) : ∃ l, memNF allS [.ptr j 0] M = some (l, M ++ [.cells 1 false (uC s.cells)]) ∧ SU (M ++ [.cells 1 false (uC s.cells)]) true s.cells l ∧ slq l = M.length := by
  simp only [memNF, hM, allS, if_pos hn, set_same hM]
  refine ⟨_, rfl, ?_⟩
  by_cases h : s.cells = []
  · rw [if_pos h]
    exact ⟨⟨by rw [uC_len]; omega, .inr ⟨_, _, _, by rw [h]; rfl, fun h0 => by rw [h] at h0; cases h0⟩⟩, rfl⟩
  · rw [if_neg h]
    exact ⟨⟨by rw [uC_len]; omega, .inr ⟨_, _, _, rfl, fun h0 => ⟨false, _, by rw [get_concat], by rw [List.drop_zero, Nat.mul_one, ← uC_len, List.take_length], by rw [uC_len]; omega, fun _ => rfl⟩⟩⟩, rfl⟩
end Go.Am.F06
end
section
namespace Go.Am.F06
def Cc (m : MM) (i : Nat) (s : MemSt) (M : MM) : Prop := ∃ lv L, M = m.set i (.cells 8 false (rootL s lv (cvA i m.length s))) ++ L ∧ (∀ R, LogAt m.length (m.set i R ++ L) lv s) ∧ L[0]? = some (.cells 1 false (uC s.cells))
theorem logAt_app {m L : MM} {i : Nat} {s : MemSt} {lv : AV} (h : ∀ R, LogAt m.length (m.set i R ++ L) lv s) (K : MM) : ∀ R, LogAt m.length (m.set i R ++ (L ++ K)) lv s := by
  intro R
  rcases h R with h | ⟨k2, h0, h1, h2, h3⟩
  · exact .inl h
  · exact .inr ⟨k2, h0, h1, h2, by rw [← List.append_assoc, List.getElem?_append_left (List.getElem?_eq_some_iff.1 h3).1]; exact h3⟩
theorem get0_app {α : Type} {L K : List α} {c : α} (h : L[0]? = some c) : (L ++ K)[0]? = some c := by
  rw [List.getElem?_append_left (List.getElem?_eq_some_iff.1 h).1]; exact h
theorem Cc.app {m M : MM} {i : Nat} {s : MemSt} (h : Cc m i s M) (K : MM) : Cc m i s (M ++ K) := by
  obtain ⟨lv, L, rfl, h1, h2⟩ := h
  exact ⟨lv, L ++ K, by rw [List.append_assoc], logAt_app h1 K, get0_app h2⟩
def okR (s : MemSt) (e : Acc) : Prop := 0 ≤ e.at' ∧ e.at' < s.cells.length ∧ s.cells.getD e.at'.toNat 0 = e.old ∧ (e.kind = 1 → e.new = e.old) ∧ 1 ≤ e.kind ∧ e.kind ≤ 4
instance (s : MemSt) (e : Acc) : Decidable (okR s e) := by unfold okR; infer_instance
theorem Cc.cells {m M : MM} {i : Nat} {s : MemSt} (h : Cc m i s M) : M[m.length]? = some (.cells 1 false (uC s.cells)) := by
  obtain ⟨lv, L, rfl, h1, h2⟩ := h
  rw [ms_mid0]; exact h2
theorem Cc.root {m M : MM} {i : Nat} (hi : i < m.length) {s : MemSt} (h : Cc m i s M) : ∃ lv, M[i]? = some (.cells 8 false (rootL s lv (cvA i m.length s))) := by
  obtain ⟨lv, L, rfl, h1, h2⟩ := h
  exact ⟨lv, ms_root hi _ _⟩
theorem Cc.keep {m M : MM} {i : Nat} {s : MemSt} (h : Cc m i s M) : KeepB i m M := by
  obtain ⟨lv, L, rfl, h1, h2⟩ := h
  exact (KeepB.at m _).trans (KeepB.app _ _)
theorem Cc.memAt {m M : MM} {i : Nat} (hi : i < m.length) {s : MemSt} (h : Cc m i s M) : ∃ k1 k2, m.length ≤ M.length ∧ (∀ j, j < m.length → j ≠ i → M[j]? = m[j]?) ∧ m.length ≤ k1 ∧ m.length ≤ k2 ∧ k1 ≠ k2 ∧ MemAt M i k1 k2 s := by
  obtain ⟨lv, L, rfl, h1, h2⟩ := h
  exact memAt_of hi h1 h2
end Go.Am.F06
end
section
namespace Go.Am.F06
def xOf (e : Acc) : Int := if e.kind = 4 then IntKind.u64.wrap (e.new - e.old) else e.new
def badE (n : Nat) (es : List Acc) (e : Acc) : Prop := e.kind < 1 ∨ 4 < e.kind ∨ e.at' < 0 ∨ (n : Int) ≤ e.at' ∨ (cellsOf n es).getD e.at'.toNat 0 ≠ e.old ∨ (e.kind = 1 ∧ e.new ≠ e.old)
instance (n : Nat) (es : List Acc) (e : Acc) : Decidable (badE n es e) := by unfold badE; infer_instance
def redoL (n : Nat) : List Acc → List Acc → List Acc × Nat
  | es, [] => (es, 0)
  | es, e :: l => if badE n es e then (es, 0) else ((redoL n (stepL n es e.kind e.at' e.old (xOf e)) l).1, (redoL n (stepL n es e.kind e.at' e.old (xOf e)) l).2 + 1)
theorem stepL_ok {n : Nat} {es : List Acc} (h : okE n es) (kind a old x : Int) : okE n (stepL n es kind a old x) := by
  unfold stepL; split
  · exact h
  · rename_i e he
    unfold doE at he; split at he
    · cases he
    · injection he with he; subst he
      intro e' he'
      rcases List.mem_append.1 he' with he' | he'
      · exact h e' he'
      · simp only [List.mem_singleton] at he'; subst he'
        exact ⟨by show 0 ≤ a; omega, by show a < n; omega⟩
section
variable {X : Type}
def RrI (m0 : Mem X) (wr : Bool) (n : Nat) (es l : List Acc) (v lv : AV) (k : Nat) (e : List AV) (m : Mem X) : Prop := ∃ (i : Nat) (ei : List Acc) (vi y6 y7 y8 y9 y10 : AV),
  e = [.agg (bookC n v), lv, .ptr m0.length 0, .ptr (m0.length + 1) 0, .int .i64 0, .int .i64 i, y6, y7, y8, y9, y10] ∧ k = l.length - i ∧ i ≤ l.length ∧ Keep m0 m ∧ m[m0.length]? = some (.cells 2 false (bookC n vi)) ∧
    m[m0.length + 1]? = some (.cells 2 false [.int .i64 0, .nils]) ∧ SA m false ei vi ∧ Nc vi ∧ okE n ei ∧ ei.length ≤ es.length + i ∧ redoL n es l = ((redoL n ei (l.drop i)).1, i + (redoL n ei (l.drop i)).2)
end
end Go.Am.F06
end
section
namespace Go.Am.F06
section
variable {X : Type}
def bN (n : Int) : Nat := (max 0 (min n 65536)).toNat
theorem bN_le (n : Int) : bN n ≤ 65536 := by unfold bN; omega
end
end Go.Am.F06
end
section
namespace Go.Am.F06
section
variable {X : Type}
theorem slOne {m : Mem X} {wr : Bool} {sz n : Nat} {l : List AV} {v : AV} (h : Sl m wr sz n l v) : v.one = true := by
  rcases h.2 with ⟨h, _⟩ | ⟨q, o, cap, h, _⟩ <;> rw [h] <;> rfl
def memC (v : AV) (o : Int) : List AV := [v, .int .u64 o]
theorem SU.clone {M : Mem X} {wr : Bool} {xs : List Int} {v : AV} (h : SU M wr xs v) (hn : xs.length ≤ 65536) : ∃ r J, appendA 1 8 .nils v M = some (r, M ++ J) ∧ SU (M ++ J) true xs r ∧ Fr M.length r ∧ Nc r := by
  rcases Nat.eq_zero_or_pos xs.length with h0 | h0
  · have hx0 : xs = [] := List.length_eq_zero_iff.1 h0
    subst hx0
    refine ⟨.nils, [], ?_, Sl.nil, .inl rfl, .inl rfl⟩
    rcases h.2 with ⟨rfl, _⟩ | ⟨q, o, cap, rfl, _⟩ <;> simp [appendA, lenA, rowOf]
  · obtain ⟨q, o, cap, ro, L, rfl, h2, h3, h4, _⟩ := h.at h0
    have hr : rowOf M 1 (.sl q o xs.length cap) = some (uC xs) := by
      simp only [rowOf, getC, h2]
      rw [if_neg (by omega), if_pos h4, h3]
    refine ⟨.sl M.length 0 xs.length none, [.cells 1 false (uC xs)], ?_, ⟨by rw [uC_len]; omega, .inr ⟨M.length, 0, none, rfl, fun _ => ⟨false, uC xs, by rw [get_concat], by rw [List.drop_zero, Nat.mul_one, ← uC_len, List.take_length], by rw [uC_len]; omega, fun _ => rfl⟩⟩⟩, .inr ⟨_, _, _, _, rfl, Nat.le_refl _⟩, .inr ⟨M.length, 0, xs.length - 1, by rw [Nat.sub_add_cancel (by omega)]⟩⟩
    simp only [appendA, lenA, hr]
    rw [if_neg (by omega), if_pos ⟨by omega, by omega, uC_one _⟩]
theorem refthere_run {G : List (Nat × AFun X)} {m : Mem X} {wr : Bool} {xs : List Int} {v : AV} (hs : SU m wr xs v) (o a : Int) : Fn G ref06_there [.agg (memC v o), .int .i64 a] m (fun r m' => r = .bool (decide (0 ≤ a) && decide (a < xs.length)) ∧ m' = m ++ [.cells 2 false (memC v o)]) := by
  have hone := slOne hs
  simp only [AV.one] at hone
  have hlen := hs.len
  refine Fn_of rfl ?_
  simp (disch := first | assumption | omega | (simp only [List.length_cons, List.length_nil, List.length_set, List.length_append] <;> omega) | (simp only [get_mid, get_mid0, List.cons_append, List.append_assoc, List.getElem?_cons_zero, List.getElem?_cons_succ])) only [ref06_there, ek, ↓evW, ↓evQ, evB, evS, evL, List.map, AV.cells, List.all, AV.one, Bool.and_true, Bool.true_and, if_true, ↓thenQ_normal, ↓thenQ_exit, ↓thenQ_ret, ↓blockQ_normal, ↓blockQ_ret, ↓blockQ_exit, ↓CW_true, ↓CW_false, CW_true, CW_false, condT, condF, RQ_some, tupA_one, tupA_two, tupA_nil, Nat.reduceSub, Nat.reduceAdd, Nat.reduceMul, Nat.zero_add, Nat.add_zero, Nat.reduceLeDiff, Nat.reduceEqDiff, eqV, eqAll, fillA, and_self, and_true, true_and, Nat.le_refl, Bool.not_true, Bool.not_false, Bool.false_xor, Bool.true_xor, cond_true, cond_false, List.replicate, if_false, reduceIte, resAll, resA, ne_eq, decide_not, decide_true, decide_false, Int.reduceEq, Bool.not_true, Bool.not_false, not_true_eq_false, not_false_eq_true, cond_bool, cond_int, beq_self_eq_true, Int.reduceBEq, Bool.and_self, Bool.and_false, Bool.false_and, Bool.xor_false, Bool.xor_true, loadN_ldC, ldC_none, ldC_somes, stC_aggs, splice, storeN_stC, stC_int, stC_bool, stC_ptr, stC_nilp, stC_sl, stC_nils, getC_gcO, gcO_cells, W_draw_eq, ↓W_scope, ev_clear, evT, evF, evX, evM, ↓exitQ_normal, ↓exitQ_ret, ↓exitQ_exit, saA_self, saO_self, if_pos, if_neg, wrapI, get_concat, set_concat, Int.toNat_natCast, Int.toNat_zero, List.nil_append, Nat.mul_one, decide_eq_true, decide_eq_false, Int.reduceLE, Int.reduceLT, Int.reduceNeg, Bool.false_or, Bool.true_or, Bool.or_false, Bool.or_true, wrapU, Int.reduceAdd, Int.reduceSub, Int.reduceMul, List.append_assoc, List.length_append, get_mid, get_mid0, set_mid, set_mid0, List.length_set, List.length_cons, List.length_nil, List.cons_append, List.getElem?_append_left, List.set_append_left, get_at, get_at0, set_at, set_at0, List.getElem?_set_self, List.getElem?_set_ne, memC, hone]
  repeat' ((first | refine GK_of (fun h => ?_) (fun h => ?_) | refine CW_of (fun h => ?_) (fun h => ?_) | refine GKT_of (fun h => ?_) (fun h => ?_)) <;> (try simp only [Bool.not_eq_true', Bool.not_eq_false', decide_eq_true_eq, decide_eq_false_iff_not, Bool.and_eq_true, Bool.or_eq_true, Bool.and_eq_false_iff, Bool.or_eq_false_iff, Decidable.not_not] at h) <;> (try simp (disch := first | assumption | omega | (simp only [List.length_cons, List.length_nil, List.length_set, List.length_append] <;> omega) | (simp only [get_mid, get_mid0, List.cons_append, List.append_assoc, List.getElem?_cons_zero, List.getElem?_cons_succ])) only [ek, ↓evW, ↓evQ, evB, evS, evL, List.map, AV.cells, List.all, AV.one, Bool.and_true, Bool.true_and, if_true, ↓thenQ_normal, ↓thenQ_exit, ↓thenQ_ret, ↓blockQ_normal, ↓blockQ_ret, ↓blockQ_exit, ↓CW_true, ↓CW_false, CW_true, CW_false, condT, condF, RQ_some, tupA_one, tupA_two, tupA_nil, Nat.reduceSub, Nat.reduceAdd, Nat.reduceMul, Nat.zero_add, Nat.add_zero, Nat.reduceLeDiff, Nat.reduceEqDiff, eqV, eqAll, fillA, and_self, and_true, true_and, Nat.le_refl, Bool.not_true, Bool.not_false, Bool.false_xor, Bool.true_xor, cond_true, cond_false, List.replicate, if_false, reduceIte, resAll, resA, ne_eq, decide_not, decide_true, decide_false, Int.reduceEq, Bool.not_true, Bool.not_false, not_true_eq_false, not_false_eq_true, cond_bool, cond_int, beq_self_eq_true, Int.reduceBEq, Bool.and_self, Bool.and_false, Bool.false_and, Bool.xor_false, Bool.xor_true, loadN_ldC, ldC_none, ldC_somes, stC_aggs, splice, storeN_stC, stC_int, stC_bool, stC_ptr, stC_nilp, stC_sl, stC_nils, getC_gcO, gcO_cells, W_draw_eq, ↓W_scope, ev_clear, evT, evF, evX, evM, ↓exitQ_normal, ↓exitQ_ret, ↓exitQ_exit, saA_self, saO_self, if_pos, if_neg, wrapI, get_concat, set_concat, Int.toNat_natCast, Int.toNat_zero, List.nil_append, Nat.mul_one, decide_eq_true, decide_eq_false, Int.reduceLE, Int.reduceLT, Int.reduceNeg, Bool.false_or, Bool.true_or, Bool.or_false, Bool.or_true, wrapU, Int.reduceAdd, Int.reduceSub, Int.reduceMul, List.append_assoc, List.length_append, get_mid, get_mid0, set_mid, set_mid0, List.length_set, List.length_cons, List.length_nil, List.cons_append, List.getElem?_append_left, List.set_append_left, get_at, get_at0, set_at, set_at0, List.getElem?_set_self, List.getElem?_set_ne, memC, ev_len, hlen, h]))
  all_goals (try simp_all)
theorem refnew_run {G : List (Nat × AFun X)} {m : Mem X} (n : Int) : Fn G ref06_New [.int .i64 n] m (fun r m' => ∃ v, r = .agg (memC v 0) ∧ Keep m m' ∧ SU m' true (cellsOf (bN n) []) v) := by
  have hK : (if (if 65536 < n then 65536 else n) > 0 then if 65536 < n then 65536 else n else 0) = ((bN n : Nat) : Int) := by unfold bN; split <;> split <;> omega
  have hbn := bN_le n
  have hmk : ∀ M : Mem X, amOp G (.make 1 8 [.int .u64 0]) [.int .i64 (bN n), .int .i64 (bN n)] M = some (.sl M.length 0 (bN n) (some (bN n)), M ++ [.cells 1 false (uC (cellsOf (bN n) []))]) := fun M => by
    have hrep : repeatL (bN n) [AV.int .u64 0] = uC (cellsOf (bN n) []) := by simp [repeatL, uC, cellsOf_nil]
    simp only [amOp]
    rw [if_pos (by omega), Int.toNat_natCast, hrep]
  refine Fn_of rfl ?_
  simp (disch := first | assumption | omega | (simp only [List.length_cons, List.length_nil, List.length_set, List.length_append] <;> omega) | (simp only [get_mid, get_mid0, List.cons_append, List.append_assoc, List.getElem?_cons_zero, List.getElem?_cons_succ])) only [ref06_New, ek, ↓evW, ↓evQ, evB, evS, evL, List.map, AV.cells, List.all, AV.one, Bool.and_true, Bool.true_and, if_true, ↓thenQ_normal, ↓thenQ_exit, ↓thenQ_ret, ↓blockQ_normal, ↓blockQ_ret, ↓blockQ_exit, ↓CW_true, ↓CW_false, CW_true, CW_false, condT, condF, RQ_some, tupA_one, tupA_two, tupA_nil, Nat.reduceSub, Nat.reduceAdd, Nat.reduceMul, Nat.zero_add, Nat.add_zero, Nat.reduceLeDiff, Nat.reduceEqDiff, eqV, eqAll, fillA, and_self, and_true, true_and, Nat.le_refl, Bool.not_true, Bool.not_false, Bool.false_xor, Bool.true_xor, cond_true, cond_false, List.replicate, if_false, reduceIte, resAll, resA, ne_eq, decide_not, decide_true, decide_false, Int.reduceEq, Bool.not_true, Bool.not_false, not_true_eq_false, not_false_eq_true, cond_bool, cond_int, beq_self_eq_true, Int.reduceBEq, Bool.and_self, Bool.and_false, Bool.false_and, Bool.xor_false, Bool.xor_true, loadN_ldC, ldC_none, ldC_somes, stC_aggs, splice, storeN_stC, stC_int, stC_bool, stC_ptr, stC_nilp, stC_sl, stC_nils, getC_gcO, gcO_cells, W_draw_eq, ↓W_scope, ev_clear, evT, evF, evX, evM, ↓exitQ_normal, ↓exitQ_ret, ↓exitQ_exit, saA_self, saO_self, if_pos, if_neg, wrapI, get_concat, set_concat, Int.toNat_natCast, Int.toNat_zero, List.nil_append, Nat.mul_one, decide_eq_true, decide_eq_false, Int.reduceLE, Int.reduceLT, Int.reduceNeg, Bool.false_or, Bool.true_or, Bool.or_false, Bool.or_true, wrapU, Int.reduceAdd, Int.reduceSub, Int.reduceMul, List.append_assoc, List.length_append, get_mid, get_mid0, set_mid, set_mid0, List.length_set, List.length_cons, List.length_nil, List.cons_append, List.getElem?_append_left, List.set_append_left, get_at, get_at0, set_at, set_at0, List.getElem?_set_self, List.getElem?_set_ne, memC, hK, hmk]
  refine ⟨_, rfl, Keep.app _ _, ?_⟩
  have hl := cellsOf_len (bN n) []
  refine ⟨by rw [uC_len]; omega, .inr ⟨_, _, _, by rw [hl], fun _ => ⟨false, _, by rw [get_mid]; rfl, by rw [List.drop_zero, Nat.mul_one, ← uC_len, List.take_length], by rw [uC_len]; omega, fun _ => rfl⟩⟩⟩
theorem SU.put {m : Mem X} {xs : List Int} {q o n : Nat} {cap : Option Nat} {L : List AV} (h : SU m true xs (.sl q o n cap)) (hq : m[q]? = some (.cells 1 false L)) {i : Nat} (hi : i < xs.length) (x : Int) : SU (m.set q (.cells 1 false (L.set (o + i) (.int .u64 x)))) true (xs.set i x) (.sl q o n cap) := by
  obtain ⟨hlen, hsl⟩ := h
  rcases hsl with ⟨h, _⟩ | ⟨q', o', cap', h, h5⟩
  · cases h
  · injection h with e1 e2 e3 e4; subst e1; subst e2; subst e3; subst e4
    obtain ⟨ro, L', d1, d2, d3, d4⟩ := h5 (by omega)
    rw [hq] at d1; injection d1 with d1; injection d1 with _ _ d1; subst d1
    refine ⟨by simp [uC_len], .inr ⟨q, o, cap, by rw [List.length_set], fun _ => ⟨false, _, List.getElem?_set_self (List.getElem?_eq_some_iff.1 hq).1, ?_, by simpa using d3, fun _ => rfl⟩⟩⟩
    rw [List.length_set, List.drop_set, if_neg (by omega), List.take_set, d2, ← uC_set]
    congr 1; omega
def RmP (m : Mem X) (xs : List Int) (o : Int) (r : AV) (m' : Mem X) : Prop := Keep m m' ∧ ∃ v', r = .agg (memC v' o) ∧ SU m' false xs v'
set_option maxHeartbeats 4000000 in
theorem refwith_run {G : List (Nat × AFun X)} {m : Mem X} {wr : Bool} {xs : List Int} {v : AV} (hs : SU m wr xs v) (hn : xs.length ≤ 65536) {a : Nat} (ha : a < xs.length) (o x : Int) : Fn G ref06_with [.agg (memC v o), .int .i64 a, .int .u64 x] m (RmP m (xs.set a x) (IntKind.u64.wrap (o + 1))) := by
  have hone := slOne hs
  simp only [AV.one] at hone
  obtain ⟨r, J, h1, h2, h3, h4⟩ := (SU.clone (hs.keep (Keep.app m [Chunk.cells 2 false [v, .int .u64 o], .cells 2 false [.nils, .int .u64 0]])) hn)
  obtain ⟨q, oo, cap, ro, L, rfl, b2, b3, b4, b5⟩ := h2.at (by omega)
  have := b5 rfl; subst this
  have hqm : m.length + 2 ≤ q := by
    rcases h3 with h | ⟨_, _, _, _, h, h'⟩
    · cases h
    · injection h with e1; subst e1; simpa using h'
  have g0 : (m ++ [Chunk.cells 2 false [v, .int .u64 o], .cells 2 false [.nils, .int .u64 0]] ++ J)[m.length]? = some (Chunk.cells 2 false [v, .int .u64 o]) := by rw [List.append_assoc, get_mid0]; rfl
  have g1 : (m ++ [Chunk.cells 2 false [v, .int .u64 o], .cells 2 false [.nils, .int .u64 0]] ++ J)[m.length + 1]? = some (.cells 2 false [.nils, .int .u64 0]) := by rw [List.append_assoc, get_mid]; rfl
  have hk : Keep m (m ++ [Chunk.cells 2 false [v, .int .u64 o], .cells 2 false [.nils, .int .u64 0]] ++ J) := by rw [List.append_assoc]; exact Keep.app _ _
  have hp := SU.put h2 b2 ha x
  refine Fn_of rfl ?_
  simp (disch := first | assumption | omega | (simp only [List.length_cons, List.length_nil, List.length_set, List.length_append] <;> omega) | (simp only [get_mid, get_mid0, List.cons_append, List.append_assoc, List.getElem?_cons_zero, List.getElem?_cons_succ])) only [ref06_with, ek, ↓evW, ↓evQ, evB, evS, evL, List.map, AV.cells, List.all, AV.one, Bool.and_true, Bool.true_and, if_true, ↓thenQ_normal, ↓thenQ_exit, ↓thenQ_ret, ↓blockQ_normal, ↓blockQ_ret, ↓blockQ_exit, ↓CW_true, ↓CW_false, CW_true, CW_false, condT, condF, RQ_some, tupA_one, tupA_two, tupA_nil, Nat.reduceSub, Nat.reduceAdd, Nat.reduceMul, Nat.zero_add, Nat.add_zero, Nat.reduceLeDiff, Nat.reduceEqDiff, eqV, eqAll, fillA, and_self, and_true, true_and, Nat.le_refl, Bool.not_true, Bool.not_false, Bool.false_xor, Bool.true_xor, cond_true, cond_false, List.replicate, if_false, reduceIte, resAll, resA, ne_eq, decide_not, decide_true, decide_false, Int.reduceEq, Bool.not_true, Bool.not_false, not_true_eq_false, not_false_eq_true, cond_bool, cond_int, beq_self_eq_true, Int.reduceBEq, Bool.and_self, Bool.and_false, Bool.false_and, Bool.xor_false, Bool.xor_true, loadN_ldC, ldC_none, ldC_somes, stC_aggs, splice, storeN_stC, stC_int, stC_bool, stC_ptr, stC_nilp, stC_sl, stC_nils, getC_gcO, gcO_cells, W_draw_eq, ↓W_scope, ev_clear, evT, evF, evX, evM, ↓exitQ_normal, ↓exitQ_ret, ↓exitQ_exit, saA_self, saO_self, if_pos, if_neg, wrapI, get_concat, set_concat, Int.toNat_natCast, Int.toNat_zero, List.nil_append, Nat.mul_one, decide_eq_true, decide_eq_false, Int.reduceLE, Int.reduceLT, Int.reduceNeg, Bool.false_or, Bool.true_or, Bool.or_false, Bool.or_true, wrapU, Int.reduceAdd, Int.reduceSub, Int.reduceMul, List.append_assoc, List.length_append, get_mid, get_mid0, set_mid, set_mid0, List.length_set, List.length_cons, List.length_nil, List.cons_append, List.getElem?_append_left, List.set_append_left, get_at, get_at0, set_at, set_at0, List.getElem?_set_self, List.getElem?_set_ne, memC, hone, evA]
  simp only [List.append_assoc, List.cons_append, List.nil_append] at h1
  simp only [List.append_assoc, List.cons_append, List.nil_append] at g0 g1 hk b2 hp
  generalize hM : (m ++ (Chunk.cells 2 false [v, .int .u64 o] :: .cells 2 false [.nils, .int .u64 0] :: J)) = M2 at h1 g0 g1 hk b2 hp
  have hql : q < M2.length := (List.getElem?_eq_some_iff.1 b2).1
  have hlm : m.length + 1 < M2.length := (List.getElem?_eq_some_iff.1 g1).1
  simp (disch := first | assumption | omega | (simp only [List.length_cons, List.length_nil, List.length_set, List.length_append] <;> omega) | (simp only [get_mid, get_mid0, List.cons_append, List.append_assoc, List.getElem?_cons_zero, List.getElem?_cons_succ])) only [ek, ↓evW, ↓evQ, evB, evS, evL, List.map, AV.cells, List.all, AV.one, Bool.and_true, Bool.true_and, if_true, ↓thenQ_normal, ↓thenQ_exit, ↓thenQ_ret, ↓blockQ_normal, ↓blockQ_ret, ↓blockQ_exit, ↓CW_true, ↓CW_false, CW_true, CW_false, condT, condF, RQ_some, tupA_one, tupA_two, tupA_nil, Nat.reduceSub, Nat.reduceAdd, Nat.reduceMul, Nat.zero_add, Nat.add_zero, Nat.reduceLeDiff, Nat.reduceEqDiff, eqV, eqAll, fillA, and_self, and_true, true_and, Nat.le_refl, Bool.not_true, Bool.not_false, Bool.false_xor, Bool.true_xor, cond_true, cond_false, List.replicate, if_false, reduceIte, resAll, resA, ne_eq, decide_not, decide_true, decide_false, Int.reduceEq, Bool.not_true, Bool.not_false, not_true_eq_false, not_false_eq_true, cond_bool, cond_int, beq_self_eq_true, Int.reduceBEq, Bool.and_self, Bool.and_false, Bool.false_and, Bool.xor_false, Bool.xor_true, loadN_ldC, ldC_none, ldC_somes, stC_aggs, splice, storeN_stC, stC_int, stC_bool, stC_ptr, stC_nilp, stC_sl, stC_nils, getC_gcO, gcO_cells, W_draw_eq, ↓W_scope, ev_clear, evT, evF, evX, evM, ↓exitQ_normal, ↓exitQ_ret, ↓exitQ_exit, saA_self, saO_self, if_pos, if_neg, wrapI, get_concat, set_concat, Int.toNat_natCast, Int.toNat_zero, List.nil_append, Nat.mul_one, decide_eq_true, decide_eq_false, Int.reduceLE, Int.reduceLT, Int.reduceNeg, Bool.false_or, Bool.true_or, Bool.or_false, Bool.or_true, wrapU, Int.reduceAdd, Int.reduceSub, Int.reduceMul, h1, b2, g0, g1, List.getElem?_set_ne, List.getElem?_set_self, List.length_set]
  exact ⟨(hk.set (by omega) _).set (by omega) _, _, rfl, ((KeepB.at _ _).off (fun q' o' n' c' h h0 => by injection h with e1; omega) hp).ro⟩
theorem su_box {m : Mem X} {wr : Bool} {es : List Int} {v : AV} (h : SU m wr es v) {b : Nat} {ro : Bool} {L : List AV} (hb : m[b]? = some (.cells 2 ro L)) : Off b v := by
  intro q o n c hv h0 hq
  rcases h.2 with ⟨h1, _⟩ | ⟨q2, o2, c2, h1, h2⟩
  · rw [h1] at hv; cases hv
  · rw [h1] at hv; injection hv with e1 e2 e3 e4; subst e1; subst e3; subst hq
    obtain ⟨ro, L, h3, _⟩ := h2 h0
    rw [hb] at h3; injection h3 with h3; injection h3 with h3; cases h3
def thr (xs : List Int) (a : Int) : Prop := 0 ≤ a ∧ a < xs.length
instance (xs : List Int) (a : Int) : Decidable (thr xs a) := by unfold thr; infer_instance
theorem thr_b {xs : List Int} {a : Int} : (decide (0 ≤ a) && decide (a < xs.length)) = decide (thr xs a) := by
  by_cases h : thr xs a
  · have h1 := h.1
    have h2 := h.2
    rw [decide_eq_true h, decide_eq_true h1, decide_eq_true h2]; rfl
  · rw [decide_eq_false h, Bool.and_eq_false_iff, decide_eq_false_iff_not, decide_eq_false_iff_not]
    unfold thr at h; omega
set_option maxHeartbeats 4000000 in
theorem refstore_run {m : Mem X} {wr : Bool} {xs : List Int} {v : AV} (hs : SU m wr xs v) (hn : xs.length ≤ 65536) (o a x : Int) : Fn [(72, c_ref06_there), (73, c_ref06_with)] ref06_Store [.agg (memC v o), .int .i64 a, .int .u64 x] m (RmP m (if thr xs a then xs.set a.toNat x else xs) (if thr xs a then IntKind.u64.wrap (o + 1) else o)) := by
  have a72 : assoc [(72, c_ref06_there (X := X)), (73, c_ref06_with)] 72 = some c_ref06_there := rfl
  have a73 : assoc [(72, c_ref06_there (X := X)), (73, c_ref06_with)] 73 = some c_ref06_with := rfl
  generalize [(72, c_ref06_there (X := X)), (73, c_ref06_with)] = G at a72 a73
  have hone := slOne hs
  simp only [AV.one] at hone
  have ht := Fn_eq (refthere_run (G := []) (hs.keep (Keep.app m [Chunk.cells 2 false [v, .int .u64 o], .cells 2 false [.nils, .int .u64 0]])) o a)
  rw [thr_b] at ht
  simp only [memC, List.append_assoc, List.cons_append, List.nil_append] at ht
  refine Fn_of rfl ?_
  by_cases h : thr xs a
  · obtain ⟨h0, h1⟩ := id h
    obtain ⟨k, rfl⟩ : ∃ k : Nat, a = k := ⟨a.toNat, by omega⟩
    simp only [h, decide_true] at ht
    have hw := refwith_run (G := []) (hs.keep (Keep.app m [Chunk.cells 2 false [v, .int .u64 o], .cells 2 false [.nils, .int .u64 0], .cells 2 false [v, .int .u64 o]])) hn (a := k) (by omega) o x
    simp (disch := first | assumption | omega | (simp only [List.length_cons, List.length_nil, List.length_set, List.length_append] <;> omega) | (simp only [get_mid, get_mid0, List.cons_append, List.append_assoc, List.getElem?_cons_zero, List.getElem?_cons_succ])) only [ref06_Store, ek, ↓evW, ↓evQ, evB, evS, evL, List.map, AV.cells, List.all, AV.one, Bool.and_true, Bool.true_and, if_true, ↓thenQ_normal, ↓thenQ_exit, ↓thenQ_ret, ↓blockQ_normal, ↓blockQ_ret, ↓blockQ_exit, ↓CW_true, ↓CW_false, CW_true, CW_false, condT, condF, RQ_some, tupA_one, tupA_two, tupA_nil, Nat.reduceSub, Nat.reduceAdd, Nat.reduceMul, Nat.zero_add, Nat.add_zero, Nat.reduceLeDiff, Nat.reduceEqDiff, eqV, eqAll, fillA, and_self, and_true, true_and, Nat.le_refl, Bool.not_true, Bool.not_false, Bool.false_xor, Bool.true_xor, cond_true, cond_false, List.replicate, if_false, reduceIte, resAll, resA, ne_eq, decide_not, decide_true, decide_false, Int.reduceEq, Bool.not_true, Bool.not_false, not_true_eq_false, not_false_eq_true, cond_bool, cond_int, beq_self_eq_true, Int.reduceBEq, Bool.and_self, Bool.and_false, Bool.false_and, Bool.xor_false, Bool.xor_true, loadN_ldC, ldC_none, ldC_somes, stC_aggs, splice, storeN_stC, stC_int, stC_bool, stC_ptr, stC_nilp, stC_sl, stC_nils, getC_gcO, gcO_cells, W_draw_eq, ↓W_scope, ev_clear, evT, evF, evX, evM, ↓exitQ_normal, ↓exitQ_ret, ↓exitQ_exit, saA_self, saO_self, if_pos, if_neg, wrapI, get_concat, set_concat, Int.toNat_natCast, Int.toNat_zero, List.nil_append, Nat.mul_one, decide_eq_true, decide_eq_false, Int.reduceLE, Int.reduceLT, Int.reduceNeg, Bool.false_or, Bool.true_or, Bool.or_false, Bool.or_true, wrapU, Int.reduceAdd, Int.reduceSub, Int.reduceMul, List.append_assoc, List.length_append, get_mid, get_mid0, set_mid, set_mid0, List.length_set, List.length_cons, List.length_nil, List.cons_append, List.getElem?_append_left, List.set_append_left, get_at, get_at0, set_at, set_at0, List.getElem?_set_self, List.getElem?_set_ne, memC, hone, a72, c_ref06_there, ht, a73, c_ref06_with]
    refine OK_fn hw ?_
    rintro _ m1 ⟨k1, v', rfl, s1⟩
    have g1 : m1[m.length + 1]? = some (.cells 2 false [.nils, .int .u64 0]) := k1.get (by rw [get_mid]; rfl)
    have hl1 : m.length + 1 < m1.length := (List.getElem?_eq_some_iff.1 g1).1
    have hone' := slOne s1
    simp only [AV.one] at hone'
    simp (disch := first | assumption | omega | (simp only [List.length_cons, List.length_nil, List.length_set, List.length_append] <;> omega) | (simp only [get_mid, get_mid0, List.cons_append, List.append_assoc, List.getElem?_cons_zero, List.getElem?_cons_succ])) only [ek, ↓evW, ↓evQ, evB, evS, evL, List.map, AV.cells, List.all, AV.one, Bool.and_true, Bool.true_and, if_true, ↓thenQ_normal, ↓thenQ_exit, ↓thenQ_ret, ↓blockQ_normal, ↓blockQ_ret, ↓blockQ_exit, ↓CW_true, ↓CW_false, CW_true, CW_false, condT, condF, RQ_some, tupA_one, tupA_two, tupA_nil, Nat.reduceSub, Nat.reduceAdd, Nat.reduceMul, Nat.zero_add, Nat.add_zero, Nat.reduceLeDiff, Nat.reduceEqDiff, eqV, eqAll, fillA, and_self, and_true, true_and, Nat.le_refl, Bool.not_true, Bool.not_false, Bool.false_xor, Bool.true_xor, cond_true, cond_false, List.replicate, if_false, reduceIte, resAll, resA, ne_eq, decide_not, decide_true, decide_false, Int.reduceEq, Bool.not_true, Bool.not_false, not_true_eq_false, not_false_eq_true, cond_bool, cond_int, beq_self_eq_true, Int.reduceBEq, Bool.and_self, Bool.and_false, Bool.false_and, Bool.xor_false, Bool.xor_true, loadN_ldC, ldC_none, ldC_somes, stC_aggs, splice, storeN_stC, stC_int, stC_bool, stC_ptr, stC_nilp, stC_sl, stC_nils, getC_gcO, gcO_cells, W_draw_eq, ↓W_scope, ev_clear, evT, evF, evX, evM, ↓exitQ_normal, ↓exitQ_ret, ↓exitQ_exit, saA_self, saO_self, if_pos, if_neg, wrapI, get_concat, set_concat, Int.toNat_natCast, Int.toNat_zero, List.nil_append, Nat.mul_one, decide_eq_true, decide_eq_false, Int.reduceLE, Int.reduceLT, Int.reduceNeg, Bool.false_or, Bool.true_or, Bool.or_false, Bool.or_true, wrapU, Int.reduceAdd, Int.reduceSub, Int.reduceMul, List.append_assoc, List.length_append, get_mid, get_mid0, set_mid, set_mid0, List.length_set, List.length_cons, List.length_nil, List.cons_append, List.getElem?_append_left, List.set_append_left, get_at, get_at0, set_at, set_at0, List.getElem?_set_self, List.getElem?_set_ne, memC, g1, hone']
    try simp only [if_pos h, Int.toNat_natCast]
    exact ⟨((Keep.app m _).trans k1).set (by omega) _, v', rfl, (KeepB.at _ _).off (su_box s1 g1) s1⟩
  · simp only [h, decide_false] at ht
    simp (disch := first | assumption | omega | (simp only [List.length_cons, List.length_nil, List.length_set, List.length_append] <;> omega) | (simp only [get_mid, get_mid0, List.cons_append, List.append_assoc, List.getElem?_cons_zero, List.getElem?_cons_succ])) only [ref06_Store, ek, ↓evW, ↓evQ, evB, evS, evL, List.map, AV.cells, List.all, AV.one, Bool.and_true, Bool.true_and, if_true, ↓thenQ_normal, ↓thenQ_exit, ↓thenQ_ret, ↓blockQ_normal, ↓blockQ_ret, ↓blockQ_exit, ↓CW_true, ↓CW_false, CW_true, CW_false, condT, condF, RQ_some, tupA_one, tupA_two, tupA_nil, Nat.reduceSub, Nat.reduceAdd, Nat.reduceMul, Nat.zero_add, Nat.add_zero, Nat.reduceLeDiff, Nat.reduceEqDiff, eqV, eqAll, fillA, and_self, and_true, true_and, Nat.le_refl, Bool.not_true, Bool.not_false, Bool.false_xor, Bool.true_xor, cond_true, cond_false, List.replicate, if_false, reduceIte, resAll, resA, ne_eq, decide_not, decide_true, decide_false, Int.reduceEq, Bool.not_true, Bool.not_false, not_true_eq_false, not_false_eq_true, cond_bool, cond_int, beq_self_eq_true, Int.reduceBEq, Bool.and_self, Bool.and_false, Bool.false_and, Bool.xor_false, Bool.xor_true, loadN_ldC, ldC_none, ldC_somes, stC_aggs, splice, storeN_stC, stC_int, stC_bool, stC_ptr, stC_nilp, stC_sl, stC_nils, getC_gcO, gcO_cells, W_draw_eq, ↓W_scope, ev_clear, evT, evF, evX, evM, ↓exitQ_normal, ↓exitQ_ret, ↓exitQ_exit, saA_self, saO_self, if_pos, if_neg, wrapI, get_concat, set_concat, Int.toNat_natCast, Int.toNat_zero, List.nil_append, Nat.mul_one, decide_eq_true, decide_eq_false, Int.reduceLE, Int.reduceLT, Int.reduceNeg, Bool.false_or, Bool.true_or, Bool.or_false, Bool.or_true, wrapU, Int.reduceAdd, Int.reduceSub, Int.reduceMul, List.append_assoc, List.length_append, get_mid, get_mid0, set_mid, set_mid0, List.length_set, List.length_cons, List.length_nil, List.cons_append, List.getElem?_append_left, List.set_append_left, get_at, get_at0, set_at, set_at0, List.getElem?_set_self, List.getElem?_set_ne, memC, hone, a72, c_ref06_there, ht]
    try simp only [if_neg h]
    exact ⟨Keep.app _ _, _, rfl, (hs.keep (Keep.app _ _)).ro⟩
end
end Go.Am.F06
end
