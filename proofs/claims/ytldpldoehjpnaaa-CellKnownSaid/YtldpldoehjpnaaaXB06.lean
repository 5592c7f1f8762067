/- Books: what accesses leave; what the reference's functions answer. -/
import Derived.Test.YtldpldoehjpnaaaXZ06
set_option linter.unusedSimpArgs false
set_option linter.unusedVariables false
namespace Go.Am.F06

def cellsOf (n : Nat) (es : List Acc) : List Int := es.foldl (fun c e => c.set e.at'.toNat e.new) (List.replicate n 0)
theorem cellsOf_nil (n : Nat) : cellsOf n [] = List.replicate n 0 := rfl
theorem cellsOf_app (n : Nat) (es : List Acc) (e : Acc) : cellsOf n (es ++ [e]) = (cellsOf n es).set e.at'.toNat e.new := by simp [cellsOf]
theorem cellsOf_len (n : Nat) (es : List Acc) : (cellsOf n es).length = n := by
  have : ∀ (es : List Acc) (c : List Int), (es.foldl (fun c e => c.set e.at'.toNat e.new) c).length = c.length := by
    intro es
    induction es with
    | nil => intro c; rfl
    | cons e es ih => intro c; rw [List.foldl_cons, ih, List.length_set]
  rw [cellsOf, this, List.length_replicate]
theorem cellsOf_take {n i : Nat} {es : List Acc} {e : Acc} (h : es[i]? = some e) : cellsOf n (es.take (i + 1)) = (cellsOf n (es.take i)).set e.at'.toNat e.new := by
  rw [List.take_add_one, h]; exact cellsOf_app _ _ _
def okE (n : Nat) (es : List Acc) : Prop := ∀ e, e ∈ es → 0 ≤ e.at' ∧ e.at' < n
theorem okE_at {n i : Nat} {es : List Acc} {e : Acc} (h : okE n es) (he : es[i]? = some e) : 0 ≤ e.at' ∧ e.at' < n := h e (List.mem_of_getElem? he)

section
variable {X : Type}
abbrev SA (m : Mem X) (wr : Bool) (es : List Acc) (v : AV) : Prop := Sl m wr 4 es.length (es.flatMap accC) v
theorem SA.get {m : Mem X} {wr : Bool} {es : List Acc} {v : AV} (h : SA m wr es v) {i : Nat} {e : Acc} (he : es[i]? = some e) : ∃ q o cap ro L, v = .sl q o es.length cap ∧ m[q]? = some (.cells 4 ro L) ∧ (wr = true → ro = false) ∧ i < es.length ∧ o + i * 4 + 4 ≤ L.length ∧
    (L.drop (o + i * 4)).take 4 = accC e ∧ L[o + i * 4]? = some (.int .i64 e.kind) ∧ L[o + i * 4 + 1]? = some (.int .i64 e.at') ∧ L[o + i * 4 + 2]? = some (.int .u64 e.old) ∧ L[o + i * 4 + 3]? = some (.int .u64 e.new) := by
  have hi : i < es.length := (List.getElem?_eq_some_iff.1 he).1
  obtain ⟨q, o, cap, ro, L, rfl, h2, h3, h4, h5⟩ := h.at (by omega)
  have hp := rows_part (f := accC) (sz := 4) (fun _ => rfl) he
  have hL : ∀ k, k < 4 → L[o + i * 4 + k]? = (accC e)[k]? := by
    intro k hk
    rw [Nat.add_assoc, sl_get h3 (by omega), rows_at (f := accC) (sz := 4) (fun _ => rfl) he hk]
  refine ⟨q, o, cap, ro, L, rfl, h2, h5, hi, by omega, ?_, hL 0 (by omega), hL 1 (by omega), hL 2 (by omega), hL 3 (by omega)⟩
  apply List.ext_getElem?
  intro k
  by_cases hk : k < 4
  · rw [List.getElem?_take, if_pos hk, List.getElem?_drop, hL k hk]
  · rw [List.getElem?_eq_none (by simp; omega), List.getElem?_eq_none (by simp [accC]; omega)]

def bookC (n : Nat) (v : AV) : List AV := [.int .i64 n, v]

def AtI (M : Mem X) (n : Nat) (es : List Acc) (v : AV) (a : Int) (k : Nat) (e : List AV) (m : Mem X) : Prop := ∃ (i : Int) (x5 x6 : AV),
  e = [.agg (bookC n v), .int .i64 a, .ptr M.length 0, .int .u64 0, .int .i64 i, x5, x6] ∧ m = M ++ [.cells 2 false (bookC n v)] ∧ (k : Int) = i + 1 ∧ i < es.length ∧ (cellsOf n es)[a.toNat]? = (cellsOf n (es.take (i + 1).toNat))[a.toNat]?

set_option maxHeartbeats 2000000 in
theorem at_run {G : List (Nat × AFun X)} {m : Mem X} {wr : Bool} {n : Nat} {es : List Acc} {v : AV} {a : Int} (hs : SA m wr es v) (hok : okE n es) (hn : es.length ≤ 1000) (h0 : 0 ≤ a) (h1 : a < n) :
    Fn G ref06_At [.agg (bookC n v), .int .i64 a] m (fun r m' => r = .int .u64 ((cellsOf n es).getD a.toNat 0) ∧ m' = m ++ [.cells 2 false (bookC n v)]) := by
  have hlen := hs.len
  have hone : v.one = true := by
    rcases hs.2 with ⟨h, _⟩ | ⟨q, o, cap, h, _⟩ <;> rw [h] <;> rfl
  simp only [AV.one] at hone
  refine Fn_of rfl ?_
  simp (disch := first | assumption | omega | (simp only [List.length_cons, List.length_nil, List.length_set, List.length_append] <;> omega) | (simp only [get_mid, get_mid0, List.cons_append, List.append_assoc, List.getElem?_cons_zero, List.getElem?_cons_succ])) only [ref06_At, ek, ↓evW, ↓evQ, evB, evS, evL, List.map, AV.cells, List.all, AV.one, Bool.and_true, Bool.true_and, if_true, ↓thenQ_normal, ↓thenQ_exit, ↓thenQ_ret, ↓blockQ_normal, ↓blockQ_ret, ↓blockQ_exit, ↓CW_true, ↓CW_false, CW_true, CW_false, condT, condF, RQ_some, tupA_one, tupA_two, tupA_nil, Nat.reduceSub, Nat.reduceAdd, Nat.reduceMul, Nat.zero_add, Nat.add_zero, Nat.reduceLeDiff, Nat.reduceEqDiff, eqV, eqAll, fillA, and_self, and_true, true_and, Nat.le_refl, Bool.not_true, Bool.not_false, Bool.false_xor, Bool.true_xor, cond_true, cond_false, List.replicate, if_false, reduceIte, resAll, resA, ne_eq, decide_not, decide_true, decide_false, Int.reduceEq, Bool.not_true, Bool.not_false, not_true_eq_false, not_false_eq_true, cond_bool, cond_int, beq_self_eq_true, Int.reduceBEq, Bool.and_self, Bool.and_false, Bool.false_and, Bool.xor_false, Bool.xor_true, loadN_ldC, ldC_none, ldC_somes, stC_aggs, splice, storeN_stC, stC_int, stC_bool, stC_ptr, stC_nilp, stC_sl, stC_nils, getC_gcO, gcO_cells, W_draw_eq, ↓W_scope, ev_clear, evT, evF, evX, evM, ↓exitQ_normal, ↓exitQ_ret, ↓exitQ_exit, saA_self, saO_self, if_pos, if_neg, wrapI, get_concat, set_concat, Int.toNat_natCast, Int.toNat_zero, List.nil_append, Nat.mul_one, decide_eq_true, decide_eq_false, Int.reduceLE, Int.reduceLT, Int.reduceNeg, Bool.false_or, Bool.true_or, Bool.or_false, Bool.or_true, wrapU, Int.reduceAdd, Int.reduceSub, Int.reduceMul, List.append_assoc, List.length_append, get_mid, get_mid0, set_mid, set_mid0, bookC, ev_len, hlen, hone]
  refine W_loop (AtI m n es v a) es.length (by simp only [FUEL]; omega) ⟨(es.length : Int) - 1, _, _, rfl, rfl, by omega, by omega, by rw [List.take_of_length_le (by omega)]⟩ ?_
  rintro k e m' ⟨i, x5, x6, rfl, rfl, hk, hi, hc⟩
  simp (disch := first | assumption | omega | (simp only [List.length_cons, List.length_nil, List.length_set, List.length_append] <;> omega) | (simp only [get_mid, get_mid0, List.cons_append, List.append_assoc, List.getElem?_cons_zero, List.getElem?_cons_succ])) only [ek, ↓evW, ↓evQ, evB, evS, evL, List.map, AV.cells, List.all, AV.one, Bool.and_true, Bool.true_and, if_true, ↓thenQ_normal, ↓thenQ_exit, ↓thenQ_ret, ↓blockQ_normal, ↓blockQ_ret, ↓blockQ_exit, ↓CW_true, ↓CW_false, CW_true, CW_false, condT, condF, RQ_some, tupA_one, tupA_two, tupA_nil, Nat.reduceSub, Nat.reduceAdd, Nat.reduceMul, Nat.zero_add, Nat.add_zero, Nat.reduceLeDiff, Nat.reduceEqDiff, eqV, eqAll, fillA, and_self, and_true, true_and, Nat.le_refl, Bool.not_true, Bool.not_false, Bool.false_xor, Bool.true_xor, cond_true, cond_false, List.replicate, if_false, reduceIte, resAll, resA, ne_eq, decide_not, decide_true, decide_false, Int.reduceEq, Bool.not_true, Bool.not_false, not_true_eq_false, not_false_eq_true, cond_bool, cond_int, beq_self_eq_true, Int.reduceBEq, Bool.and_self, Bool.and_false, Bool.false_and, Bool.xor_false, Bool.xor_true, loadN_ldC, ldC_none, ldC_somes, stC_aggs, splice, storeN_stC, stC_int, stC_bool, stC_ptr, stC_nilp, stC_sl, stC_nils, getC_gcO, gcO_cells, W_draw_eq, ↓W_scope, ev_clear, evT, evF, evX, evM, ↓exitQ_normal, ↓exitQ_ret, ↓exitQ_exit, saA_self, saO_self, if_pos, if_neg, wrapI, get_concat, set_concat, Int.toNat_natCast, Int.toNat_zero, List.nil_append, Nat.mul_one, decide_eq_true, decide_eq_false, Int.reduceLE, Int.reduceLT, Int.reduceNeg, Bool.false_or, Bool.true_or, Bool.or_false, Bool.or_true, wrapU, Int.reduceAdd, Int.reduceSub, Int.reduceMul, List.append_assoc, List.length_append, get_mid, get_mid0, set_mid, set_mid0, bookC]
  refine CW_of (fun h => ?_) (fun h => ?_)
  · simp only [decide_eq_true_eq] at h
    obtain ⟨j, rfl⟩ : ∃ j : Nat, i = j := ⟨i.toNat, by omega⟩
    obtain ⟨e, he⟩ : ∃ e, es[j]? = some e := ⟨_, List.getElem?_eq_getElem (by omega)⟩
    obtain ⟨q, o, cap, ro, L, rfl, hq, _, g1, g2, g3, g4, g5, g6, g7⟩ := hs.get he
    have hq' : (m ++ [Chunk.cells 2 false [.int .i64 (n : Int), .sl q o es.length cap]])[q]? = some (.cells 4 ro L) := by rw [List.getElem?_append_left (List.getElem?_eq_some_iff.1 hq).1]; exact hq
    have hok := okE_at hok he
    have ht := cellsOf_take (n := n) he
    have hj : ((j : Int) + 1).toNat = j + 1 := by omega
    rw [hj, ht] at hc
    have hl := cellsOf_len n (es.take j)
    simp (disch := first | assumption | omega | (simp only [List.length_cons, List.length_nil, List.length_set, List.length_append] <;> omega) | (simp only [get_mid, get_mid0, List.cons_append, List.append_assoc, List.getElem?_cons_zero, List.getElem?_cons_succ])) only [ek, ↓evW, ↓evQ, evB, evS, evL, List.map, AV.cells, List.all, AV.one, Bool.and_true, Bool.true_and, if_true, ↓thenQ_normal, ↓thenQ_exit, ↓thenQ_ret, ↓blockQ_normal, ↓blockQ_ret, ↓blockQ_exit, ↓CW_true, ↓CW_false, CW_true, CW_false, condT, condF, RQ_some, tupA_one, tupA_two, tupA_nil, Nat.reduceSub, Nat.reduceAdd, Nat.reduceMul, Nat.zero_add, Nat.add_zero, Nat.reduceLeDiff, Nat.reduceEqDiff, eqV, eqAll, fillA, and_self, and_true, true_and, Nat.le_refl, Bool.not_true, Bool.not_false, Bool.false_xor, Bool.true_xor, cond_true, cond_false, List.replicate, if_false, reduceIte, resAll, resA, ne_eq, decide_not, decide_true, decide_false, Int.reduceEq, Bool.not_true, Bool.not_false, not_true_eq_false, not_false_eq_true, cond_bool, cond_int, beq_self_eq_true, Int.reduceBEq, Bool.and_self, Bool.and_false, Bool.false_and, Bool.xor_false, Bool.xor_true, loadN_ldC, ldC_none, ldC_somes, stC_aggs, splice, storeN_stC, stC_int, stC_bool, stC_ptr, stC_nilp, stC_sl, stC_nils, getC_gcO, gcO_cells, W_draw_eq, ↓W_scope, ev_clear, evT, evF, evX, evM, ↓exitQ_normal, ↓exitQ_ret, ↓exitQ_exit, saA_self, saO_self, if_pos, if_neg, wrapI, get_concat, set_concat, Int.toNat_natCast, Int.toNat_zero, List.nil_append, Nat.mul_one, decide_eq_true, decide_eq_false, Int.reduceLE, Int.reduceLT, Int.reduceNeg, Bool.false_or, Bool.true_or, Bool.or_false, Bool.or_true, wrapU, Int.reduceAdd, Int.reduceSub, Int.reduceMul, List.append_assoc, List.length_append, get_mid, get_mid0, set_mid, set_mid0, hq', g5]
    refine CW_of (fun h => ?_) (fun h => ?_)
    · simp only [decide_eq_true_eq] at h
      simp (disch := first | assumption | omega | (simp only [List.length_cons, List.length_nil, List.length_set, List.length_append] <;> omega) | (simp only [get_mid, get_mid0, List.cons_append, List.append_assoc, List.getElem?_cons_zero, List.getElem?_cons_succ])) only [ek, ↓evW, ↓evQ, evB, evS, evL, List.map, AV.cells, List.all, AV.one, Bool.and_true, Bool.true_and, if_true, ↓thenQ_normal, ↓thenQ_exit, ↓thenQ_ret, ↓blockQ_normal, ↓blockQ_ret, ↓blockQ_exit, ↓CW_true, ↓CW_false, CW_true, CW_false, condT, condF, RQ_some, tupA_one, tupA_two, tupA_nil, Nat.reduceSub, Nat.reduceAdd, Nat.reduceMul, Nat.zero_add, Nat.add_zero, Nat.reduceLeDiff, Nat.reduceEqDiff, eqV, eqAll, fillA, and_self, and_true, true_and, Nat.le_refl, Bool.not_true, Bool.not_false, Bool.false_xor, Bool.true_xor, cond_true, cond_false, List.replicate, if_false, reduceIte, resAll, resA, ne_eq, decide_not, decide_true, decide_false, Int.reduceEq, Bool.not_true, Bool.not_false, not_true_eq_false, not_false_eq_true, cond_bool, cond_int, beq_self_eq_true, Int.reduceBEq, Bool.and_self, Bool.and_false, Bool.false_and, Bool.xor_false, Bool.xor_true, loadN_ldC, ldC_none, ldC_somes, stC_aggs, splice, storeN_stC, stC_int, stC_bool, stC_ptr, stC_nilp, stC_sl, stC_nils, getC_gcO, gcO_cells, W_draw_eq, ↓W_scope, ev_clear, evT, evF, evX, evM, ↓exitQ_normal, ↓exitQ_ret, ↓exitQ_exit, saA_self, saO_self, if_pos, if_neg, wrapI, get_concat, set_concat, Int.toNat_natCast, Int.toNat_zero, List.nil_append, Nat.mul_one, decide_eq_true, decide_eq_false, Int.reduceLE, Int.reduceLT, Int.reduceNeg, Bool.false_or, Bool.true_or, Bool.or_false, Bool.or_true, wrapU, Int.reduceAdd, Int.reduceSub, Int.reduceMul, List.append_assoc, List.length_append, get_mid, get_mid0, set_mid, set_mid0, hq', g7]
      rw [← h, List.getElem?_set_self (by omega)] at hc
      rw [List.getD_eq_getElem?_getD, ← h, hc]; rfl
    · simp only [decide_eq_false_iff_not] at h
      simp (disch := first | assumption | omega | (simp only [List.length_cons, List.length_nil, List.length_set, List.length_append] <;> omega) | (simp only [get_mid, get_mid0, List.cons_append, List.append_assoc, List.getElem?_cons_zero, List.getElem?_cons_succ])) only [ek, ↓evW, ↓evQ, evB, evS, evL, List.map, AV.cells, List.all, AV.one, Bool.and_true, Bool.true_and, if_true, ↓thenQ_normal, ↓thenQ_exit, ↓thenQ_ret, ↓blockQ_normal, ↓blockQ_ret, ↓blockQ_exit, ↓CW_true, ↓CW_false, CW_true, CW_false, condT, condF, RQ_some, tupA_one, tupA_two, tupA_nil, Nat.reduceSub, Nat.reduceAdd, Nat.reduceMul, Nat.zero_add, Nat.add_zero, Nat.reduceLeDiff, Nat.reduceEqDiff, eqV, eqAll, fillA, and_self, and_true, true_and, Nat.le_refl, Bool.not_true, Bool.not_false, Bool.false_xor, Bool.true_xor, cond_true, cond_false, List.replicate, if_false, reduceIte, resAll, resA, ne_eq, decide_not, decide_true, decide_false, Int.reduceEq, Bool.not_true, Bool.not_false, not_true_eq_false, not_false_eq_true, cond_bool, cond_int, beq_self_eq_true, Int.reduceBEq, Bool.and_self, Bool.and_false, Bool.false_and, Bool.xor_false, Bool.xor_true, loadN_ldC, ldC_none, ldC_somes, stC_aggs, splice, storeN_stC, stC_int, stC_bool, stC_ptr, stC_nilp, stC_sl, stC_nils, getC_gcO, gcO_cells, W_draw_eq, ↓W_scope, ev_clear, evT, evF, evX, evM, ↓exitQ_normal, ↓exitQ_ret, ↓exitQ_exit, saA_self, saO_self, if_pos, if_neg, wrapI, get_concat, set_concat, Int.toNat_natCast, Int.toNat_zero, List.nil_append, Nat.mul_one, decide_eq_true, decide_eq_false, Int.reduceLE, Int.reduceLT, Int.reduceNeg, Bool.false_or, Bool.true_or, Bool.or_false, Bool.or_true, wrapU, Int.reduceAdd, Int.reduceSub, Int.reduceMul, List.append_assoc, List.length_append, get_mid, get_mid0, set_mid, set_mid0]
      refine ⟨j, by omega, (j : Int) - 1, _, _, rfl, rfl, by omega, by omega, ?_⟩
      rw [hc, List.getElem?_set_ne (by omega)]
      congr 3; omega
  · simp only [decide_eq_false_iff_not] at h
    simp (disch := first | assumption | omega | (simp only [List.length_cons, List.length_nil, List.length_set, List.length_append] <;> omega) | (simp only [get_mid, get_mid0, List.cons_append, List.append_assoc, List.getElem?_cons_zero, List.getElem?_cons_succ])) only [ek, ↓evW, ↓evQ, evB, evS, evL, List.map, AV.cells, List.all, AV.one, Bool.and_true, Bool.true_and, if_true, ↓thenQ_normal, ↓thenQ_exit, ↓thenQ_ret, ↓blockQ_normal, ↓blockQ_ret, ↓blockQ_exit, ↓CW_true, ↓CW_false, CW_true, CW_false, condT, condF, RQ_some, tupA_one, tupA_two, tupA_nil, Nat.reduceSub, Nat.reduceAdd, Nat.reduceMul, Nat.zero_add, Nat.add_zero, Nat.reduceLeDiff, Nat.reduceEqDiff, eqV, eqAll, fillA, and_self, and_true, true_and, Nat.le_refl, Bool.not_true, Bool.not_false, Bool.false_xor, Bool.true_xor, cond_true, cond_false, List.replicate, if_false, reduceIte, resAll, resA, ne_eq, decide_not, decide_true, decide_false, Int.reduceEq, Bool.not_true, Bool.not_false, not_true_eq_false, not_false_eq_true, cond_bool, cond_int, beq_self_eq_true, Int.reduceBEq, Bool.and_self, Bool.and_false, Bool.false_and, Bool.xor_false, Bool.xor_true, loadN_ldC, ldC_none, ldC_somes, stC_aggs, splice, storeN_stC, stC_int, stC_bool, stC_ptr, stC_nilp, stC_sl, stC_nils, getC_gcO, gcO_cells, W_draw_eq, ↓W_scope, ev_clear, evT, evF, evX, evM, ↓exitQ_normal, ↓exitQ_ret, ↓exitQ_exit, saA_self, saO_self, if_pos, if_neg, wrapI, get_concat, set_concat, Int.toNat_natCast, Int.toNat_zero, List.nil_append, Nat.mul_one, decide_eq_true, decide_eq_false, Int.reduceLE, Int.reduceLT, Int.reduceNeg, Bool.false_or, Bool.true_or, Bool.or_false, Bool.or_true, wrapU, Int.reduceAdd, Int.reduceSub, Int.reduceMul, List.append_assoc, List.length_append, get_mid, get_mid0, set_mid, set_mid0]
    have hi : (i + 1).toNat = 0 := by omega
    rw [hi, List.take_zero, cellsOf_nil, List.getElem?_replicate, if_pos (by omega)] at hc
    rw [List.getD_eq_getElem?_getD, hc]; rfl

/-- A row written out anew, and one more. -/
theorem own_keep {m J : Mem X} {sz n : Nat} {l : List AV} {v : AV} (h : Own m (m ++ J) sz n l v) (K : Mem X) : Own m (m ++ (J ++ K)) sz n l v := by
  rcases h with h | ⟨q, h1, h2, h3, h4⟩
  · exact .inl h
  · refine .inr ⟨q, h1, ?_, h3, ?_⟩
    · rw [← List.append_assoc, List.getElem?_append_left h4]; exact h2
    · simp at h4 ⊢; omega
/-- No room that is known. -/
def Nc (v : AV) : Prop := v = .nils ∨ ∃ q o n, v = .sl q o (n + 1) none
theorem SA.more {M : Mem X} {wr : Bool} {es : List Acc} {v : AV} (h : SA M wr es v) (hn : es.length ≤ 1000) (e : Acc) : ∃ r1 M1 r2 M2, appendA 4 32 .nils v M = some (r1, M1) ∧ Keep M M1 ∧
    appendA 4 32 r1 (.sl M1.length 0 1 (some 1)) (M1 ++ [.cells 4 false (accC e)]) = some (r2, M2) ∧ Keep M M2 ∧ SA M2 true (es ++ [e]) r2 ∧ Fr M.length r2 ∧ Nc r2 := by
  have h1 : ∃ r J, appendA 4 32 .nils v M = some (r, M ++ J) ∧ Own M (M ++ J) 4 es.length (es.flatMap accC) r := by
    rcases Nat.eq_zero_or_pos es.length with h0 | h0
    · have hx0 : es = [] := List.length_eq_zero_iff.1 h0
      subst hx0
      refine ⟨.nils, [], ?_, own_nil⟩
      rcases h.2 with ⟨rfl, _⟩ | ⟨q, o, cap, rfl, _⟩ <;> simp [appendA, lenA, rowOf]
    · obtain ⟨q, o, cap, ro, L, rfl, h2, h3, h4, _⟩ := h.at h0
      have hr : rowOf M 4 (.sl q o es.length cap) = some (es.flatMap accC) := by
        simp only [rowOf, getC, h2]
        rw [if_neg (by omega), if_pos h4, h3]
      refine ⟨.sl M.length 0 es.length none, [.cells 4 false (es.flatMap accC)], ?_, .inr ⟨M.length, rfl, by simp, Nat.le_refl _, by simp⟩⟩
      simp only [appendA, lenA, hr]
      rw [if_neg (by omega), if_pos ⟨by omega, by omega, accs_one _⟩]
  obtain ⟨r, J, h1, h2⟩ := h1
  obtain ⟨q', J', h3, h4⟩ := own_app (bytes := 32) (c := some 1) (own_keep h2 [.cells 4 false (accC e)]) (accs_len es) (accs_one es) (j := (M ++ J).length) (sz' := 4) (ro := false) (x := accC e) (by rw [← List.append_assoc, get_concat]) rfl rfl (by omega) (by omega)
  refine ⟨r, M ++ J, _, _, h1, Keep.app M J, by rw [List.append_assoc]; exact h3, Keep.app M J', ?_⟩
  have := h4.sl (by rw [List.length_append, accs_len]; simp [accC]; omega)
  refine ⟨?_, this.2, .inr ⟨_, _, _, rfl⟩⟩
  rw [SA, List.length_append, List.flatMap_append]
  simpa using this.1

/-- What an access is: none: it is not done. -/
def doE (n : Nat) (es : List Acc) (kind a old x : Int) : Option Acc :=
  if a < 0 ∨ (n : Int) ≤ a ∨ kind < 1 ∨ 4 < kind then none
  else some ⟨kind, a, (cellsOf n es).getD a.toNat 0, if kind = 2 ∨ (kind = 3 ∧ (cellsOf n es).getD a.toNat 0 = old) then x else if kind = 4 then IntKind.u64.wrap ((cellsOf n es).getD a.toNat 0 + x) else (cellsOf n es).getD a.toNat 0⟩

def DoP (m : Mem X) (n : Nat) (es : List Acc) (v : AV) (kind a old x : Int) (r : AV) (m' : Mem X) : Prop := Keep m m' ∧
  ((doE n es kind a old x = none ∧ r = .tup [.agg (bookC n v), .agg (accC ⟨0, 0, 0, 0⟩), .bool false]) ∨
   (∃ e v', doE n es kind a old x = some e ∧ r = .tup [.agg (bookC n v'), .agg (accC e), .bool true] ∧ SA m' true (es ++ [e]) v' ∧ Fr m.length v' ∧ Nc v'))

theorem SA.one {m : Mem X} {wr : Bool} {es : List Acc} {v : AV} (h : SA m wr es v) : v.one = true := by
  rcases h.2 with ⟨h, _⟩ | ⟨q, o, cap, h, _⟩ <;> rw [h] <;> rfl
theorem Fr.one {n : Nat} {v : AV} (h : Fr n v) : v.one = true ∧ v.cells = [v] := by
  rcases h with h | ⟨q, o, k, cap, h, _⟩ <;> rw [h] <;> exact ⟨rfl, rfl⟩

theorem stC_fr {n0 : Nat} {v : AV} (h : Fr n0 v) (m : Mem X) (i o sz : Nat) (l : List AV) (ho : o < l.length) : stC m i o 1 v (some (sz, false, l)) = some (m.set i (.cells sz false (l.set o v))) := by
  rcases h with h | ⟨q, o, k, cap, h, _⟩ <;> subst h
  · exact stC_nils ho
  · exact stC_sl ho
def sqN : Nat → AC → AC
  | 0, .seq a _ => a
  | n + 1, .seq _ b => sqN n b
  | _, c => c
def sqT : Nat → AC → AC
  | 0, c => c
  | n + 1, .seq _ b => sqT n b
  | _, c => c
def doT : AC := sqT 6 ref06_Do.body
theorem do_body : ref06_Do = { nloc := 15, npar := 5, res := [.cell 6 (some 2), .cell 7 (some 4), .loc 8], body := .seq (sqN 0 ref06_Do.body) (.seq (sqN 1 ref06_Do.body) (.seq (sqN 2 ref06_Do.body) (.seq (sqN 3 ref06_Do.body) (.seq (sqN 4 ref06_Do.body) (.seq (sqN 5 ref06_Do.body) doT))))) } := rfl

set_option maxHeartbeats 8000000 in
theorem do_tail {G : List (Nat × AFun X)} {M : Mem X} {k : Nat} {wr : Bool} {n : Nat} {es : List Acc} {v : AV} (hs : SA M wr es v) (hn : es.length ≤ 1000) (e : Acc) (h0 : M[k]? = some (.cells 2 false [.int .i64 n, v])) (h1 : M[k + 1]? = some (.cells 2 false [.int .i64 0, .nils])) (h2 : M[k + 2]? = some (.cells 4 false (accC ⟨0, 0, 0, 0⟩)))
    (h4 : M[k + 4]? = some (.cells 4 false (accC e))) (x0 x1 x2 x3 x4 x9 x12 x13 x14 : AV) {Q : AV → Mem X → Prop} (hQ : ∀ v' M' b0 b1 b2, Keep M M' → SA M' true (es ++ [e]) v' → Fr M.length v' → Nc v' → Q (.tup [.agg (bookC n v'), .agg (accC e), .bool true]) (((M'.set k b0).set (k + 1) b1).set (k + 2) b2)) :
    W G doT (resQ [.cell 6 (some 2), .cell 7 (some 4), .loc 8] Q) [x0, x1, x2, x3, x4, .ptr k 0, .ptr (k + 1) 0, .ptr (k + 2) 0, .bool false, x9, .ptr (k + 4) 0, .skip, x12, x13, x14] M := by
  obtain ⟨r1, M1, r2, M2, a1, k1, a2, k2, s2, f2, n2⟩ := hs.more hn e
  have g0 := k1.get h0
  have g4 := k1.get h4
  have g4' : (M1 ++ [Chunk.cells 4 false (accC e)])[k + 4]? = some (.cells 4 false (accC e)) := by rw [List.getElem?_append_left (List.getElem?_eq_some_iff.1 g4).1]; exact g4
  have i0 := k2.get h0
  have i1 := k2.get h1
  have i2 := k2.get h2
  have i4 := k2.get h4
  have hl : k + 4 < M2.length := (List.getElem?_eq_some_iff.1 i4).1
  have hone : (accC e).all AV.one = true := rfl
  have hal : (accC e).length = 4 := rfl
  have htk : (accC e).take 4 = accC e := rfl
  have hal0 : (accC ⟨0, 0, 0, 0⟩).length = 4 := rfl
  have hrep : repeatL 1 [AV.int .i64 0, .int .i64 0, .int .u64 0, .int .u64 0] = [AV.int .i64 0, .int .i64 0, .int .u64 0, .int .u64 0] := rfl
  have hst := stC_fr (X := X) f2
  have f1 := (Fr.one f2).1
  simp only [AV.one] at f1
  simp (disch := first | assumption | omega | (simp only [List.length_cons, List.length_nil, List.length_set, List.length_append] <;> omega) | (simp only [get_mid, get_mid0, List.cons_append, List.append_assoc, List.getElem?_cons_zero, List.getElem?_cons_succ])) only [doT, sqT, ref06_Do, ek, ↓evW, ↓evQ, evB, evS, evL, List.map, AV.cells, List.all, AV.one, Bool.and_true, Bool.true_and, if_true, ↓thenQ_normal, ↓thenQ_exit, ↓thenQ_ret, ↓blockQ_normal, ↓blockQ_ret, ↓blockQ_exit, ↓CW_true, ↓CW_false, CW_true, CW_false, condT, condF, RQ_some, tupA_one, tupA_two, tupA_nil, Nat.reduceSub, Nat.reduceAdd, Nat.reduceMul, Nat.zero_add, Nat.add_zero, Nat.reduceLeDiff, Nat.reduceEqDiff, eqV, eqAll, fillA, and_self, and_true, true_and, Nat.le_refl, Bool.not_true, Bool.not_false, Bool.false_xor, Bool.true_xor, cond_true, cond_false, List.replicate, if_false, reduceIte, resAll, resA, ne_eq, decide_not, decide_true, decide_false, Int.reduceEq, Bool.not_true, Bool.not_false, not_true_eq_false, not_false_eq_true, cond_bool, cond_int, beq_self_eq_true, Int.reduceBEq, Bool.and_self, Bool.and_false, Bool.false_and, Bool.xor_false, Bool.xor_true, loadN_ldC, ldC_none, ldC_somes, stC_aggs, splice, storeN_stC, stC_int, stC_bool, stC_ptr, stC_nilp, stC_sl, stC_nils, getC_gcO, gcO_cells, W_draw_eq, ↓W_scope, ev_clear, evT, evF, evX, evM, ↓exitQ_normal, ↓exitQ_ret, ↓exitQ_exit, saA_self, saO_self, if_pos, if_neg, wrapI, get_concat, set_concat, Int.toNat_natCast, Int.toNat_zero, List.nil_append, Nat.mul_one, decide_eq_true, decide_eq_false, Int.reduceLE, Int.reduceLT, Int.reduceNeg, Bool.false_or, Bool.true_or, Bool.or_false, Bool.or_true, wrapU, Int.reduceAdd, Int.reduceSub, Int.reduceMul, List.append_nil, evA, h0, a1, f1, g0, g4, g4', hrep, hone, hal, htk, a2, i0, hst, List.getElem?_set_self, List.getElem?_set_ne, i4, i1, i2, hal0, List.length_set]
  exact hQ r2 M2 _ _ _ k2 s2 f2 n2

set_option maxHeartbeats 8000000 in
theorem do_run {m : Mem X} {wr : Bool} {n : Nat} {es : List Acc} {v : AV} (hs : SA m wr es v) (hok : okE n es) (hn : es.length ≤ 1000) (kind a old x : Int) :
    Fn [(55, c_ref06_At)] ref06_Do [.agg (bookC n v), .int .i64 kind, .int .i64 a, .int .u64 old, .int .u64 x] m (DoP m n es v kind a old x) := by
  have a55 : assoc [(55, c_ref06_At (X := X))] 55 = some c_ref06_At := rfl
  generalize [(55, c_ref06_At (X := X))] = G at a55
  have hone := hs.one
  simp only [AV.one] at hone
  refine Fn_of rfl ?_
  by_cases hr : a < 0 ∨ (n : Int) ≤ a ∨ kind < 1 ∨ 4 < kind
  · have hd : doE n es kind a old x = none := if_pos hr
    simp (disch := first | assumption | omega | (simp only [List.length_cons, List.length_nil, List.length_set, List.length_append] <;> omega) | (simp only [get_mid, get_mid0, List.cons_append, List.append_assoc, List.getElem?_cons_zero, List.getElem?_cons_succ])) only [ref06_Do, ek, ↓evW, ↓evQ, evB, evS, evL, List.map, AV.cells, List.all, AV.one, Bool.and_true, Bool.true_and, if_true, ↓thenQ_normal, ↓thenQ_exit, ↓thenQ_ret, ↓blockQ_normal, ↓blockQ_ret, ↓blockQ_exit, ↓CW_true, ↓CW_false, CW_true, CW_false, condT, condF, RQ_some, tupA_one, tupA_two, tupA_nil, Nat.reduceSub, Nat.reduceAdd, Nat.reduceMul, Nat.zero_add, Nat.add_zero, Nat.reduceLeDiff, Nat.reduceEqDiff, eqV, eqAll, fillA, and_self, and_true, true_and, Nat.le_refl, Bool.not_true, Bool.not_false, Bool.false_xor, Bool.true_xor, cond_true, cond_false, List.replicate, if_false, reduceIte, resAll, resA, ne_eq, decide_not, decide_true, decide_false, Int.reduceEq, Bool.not_true, Bool.not_false, not_true_eq_false, not_false_eq_true, cond_bool, cond_int, beq_self_eq_true, Int.reduceBEq, Bool.and_self, Bool.and_false, Bool.false_and, Bool.xor_false, Bool.xor_true, loadN_ldC, ldC_none, ldC_somes, stC_aggs, splice, storeN_stC, stC_int, stC_bool, stC_ptr, stC_nilp, stC_sl, stC_nils, getC_gcO, gcO_cells, W_draw_eq, ↓W_scope, ev_clear, evT, evF, evX, evM, ↓exitQ_normal, ↓exitQ_ret, ↓exitQ_exit, saA_self, saO_self, if_pos, if_neg, wrapI, get_concat, set_concat, Int.toNat_natCast, Int.toNat_zero, List.nil_append, Nat.mul_one, decide_eq_true, decide_eq_false, Int.reduceLE, Int.reduceLT, Int.reduceNeg, Bool.false_or, Bool.true_or, Bool.or_false, Bool.or_true, wrapU, Int.reduceAdd, Int.reduceSub, Int.reduceMul, List.append_assoc, List.length_append, get_mid, get_mid0, set_mid, set_mid0, bookC, hone]
    repeat' ((first | refine GK_of (fun h => ?_) (fun h => ?_) | refine CW_of (fun h => ?_) (fun h => ?_) | refine GKT_of (fun h => ?_) (fun h => ?_)) <;> (try simp only [Bool.not_eq_true', Bool.not_eq_false', decide_eq_true_eq, decide_eq_false_iff_not, Bool.and_eq_true, Bool.or_eq_true, Bool.and_eq_false_iff, Bool.or_eq_false_iff, Decidable.not_not] at h) <;> (try simp (disch := first | assumption | omega | (simp only [List.length_cons, List.length_nil, List.length_set, List.length_append] <;> omega) | (simp only [get_mid, get_mid0, List.cons_append, List.append_assoc, List.getElem?_cons_zero, List.getElem?_cons_succ])) only [ek, ↓evW, ↓evQ, evB, evS, evL, List.map, AV.cells, List.all, AV.one, Bool.and_true, Bool.true_and, if_true, ↓thenQ_normal, ↓thenQ_exit, ↓thenQ_ret, ↓blockQ_normal, ↓blockQ_ret, ↓blockQ_exit, ↓CW_true, ↓CW_false, CW_true, CW_false, condT, condF, RQ_some, tupA_one, tupA_two, tupA_nil, Nat.reduceSub, Nat.reduceAdd, Nat.reduceMul, Nat.zero_add, Nat.add_zero, Nat.reduceLeDiff, Nat.reduceEqDiff, eqV, eqAll, fillA, and_self, and_true, true_and, Nat.le_refl, Bool.not_true, Bool.not_false, Bool.false_xor, Bool.true_xor, cond_true, cond_false, List.replicate, if_false, reduceIte, resAll, resA, ne_eq, decide_not, decide_true, decide_false, Int.reduceEq, Bool.not_true, Bool.not_false, not_true_eq_false, not_false_eq_true, cond_bool, cond_int, beq_self_eq_true, Int.reduceBEq, Bool.and_self, Bool.and_false, Bool.false_and, Bool.xor_false, Bool.xor_true, loadN_ldC, ldC_none, ldC_somes, stC_aggs, splice, storeN_stC, stC_int, stC_bool, stC_ptr, stC_nilp, stC_sl, stC_nils, getC_gcO, gcO_cells, W_draw_eq, ↓W_scope, ev_clear, evT, evF, evX, evM, ↓exitQ_normal, ↓exitQ_ret, ↓exitQ_exit, saA_self, saO_self, if_pos, if_neg, wrapI, get_concat, set_concat, Int.toNat_natCast, Int.toNat_zero, List.nil_append, Nat.mul_one, decide_eq_true, decide_eq_false, Int.reduceLE, Int.reduceLT, Int.reduceNeg, Bool.false_or, Bool.true_or, Bool.or_false, Bool.or_true, wrapU, Int.reduceAdd, Int.reduceSub, Int.reduceMul, List.append_assoc, List.length_append, get_mid, get_mid0, set_mid, set_mid0, bookC, hone]))
    all_goals (try (exfalso; omega))
    all_goals exact ⟨Keep.app m _, .inl ⟨hd, rfl⟩⟩
  · obtain ⟨b1, b2, b3, b4⟩ : 0 ≤ a ∧ a < n ∧ 1 ≤ kind ∧ kind ≤ 4 := by omega
    have hd : doE n es kind a old x = some _ := if_neg hr
    have hat := Fn_eq (at_run (G := []) (hs.keep (Keep.app m [Chunk.cells 2 false (bookC n v), Chunk.cells 2 false [.int .i64 0, .nils], Chunk.cells 4 false [.int .i64 0, .int .i64 0, .int .u64 0, .int .u64 0]])) hok hn b1 b2)
    simp only [bookC, List.append_assoc, List.cons_append, List.nil_append] at hat
    generalize hw : (cellsOf n es).getD a.toNat 0 = was at hat hd
    rw [do_body]
    simp (disch := first | assumption | omega | (simp only [List.length_cons, List.length_nil, List.length_set, List.length_append] <;> omega) | (simp only [get_mid, get_mid0, List.cons_append, List.append_assoc, List.getElem?_cons_zero, List.getElem?_cons_succ])) only [sqN, ref06_Do, ek, ↓evW, ↓evQ, evB, evS, evL, List.map, AV.cells, List.all, AV.one, Bool.and_true, Bool.true_and, if_true, ↓thenQ_normal, ↓thenQ_exit, ↓thenQ_ret, ↓blockQ_normal, ↓blockQ_ret, ↓blockQ_exit, ↓CW_true, ↓CW_false, CW_true, CW_false, condT, condF, RQ_some, tupA_one, tupA_two, tupA_nil, Nat.reduceSub, Nat.reduceAdd, Nat.reduceMul, Nat.zero_add, Nat.add_zero, Nat.reduceLeDiff, Nat.reduceEqDiff, eqV, eqAll, fillA, and_self, and_true, true_and, Nat.le_refl, Bool.not_true, Bool.not_false, Bool.false_xor, Bool.true_xor, cond_true, cond_false, List.replicate, if_false, reduceIte, resAll, resA, ne_eq, decide_not, decide_true, decide_false, Int.reduceEq, Bool.not_true, Bool.not_false, not_true_eq_false, not_false_eq_true, cond_bool, cond_int, beq_self_eq_true, Int.reduceBEq, Bool.and_self, Bool.and_false, Bool.false_and, Bool.xor_false, Bool.xor_true, loadN_ldC, ldC_none, ldC_somes, stC_aggs, splice, storeN_stC, stC_int, stC_bool, stC_ptr, stC_nilp, stC_sl, stC_nils, getC_gcO, gcO_cells, W_draw_eq, ↓W_scope, ev_clear, evT, evF, evX, evM, ↓exitQ_normal, ↓exitQ_ret, ↓exitQ_exit, saA_self, saO_self, if_pos, if_neg, wrapI, get_concat, set_concat, Int.toNat_natCast, Int.toNat_zero, List.nil_append, Nat.mul_one, decide_eq_true, decide_eq_false, Int.reduceLE, Int.reduceLT, Int.reduceNeg, Bool.false_or, Bool.true_or, Bool.or_false, Bool.or_true, wrapU, Int.reduceAdd, Int.reduceSub, Int.reduceMul, List.append_assoc, List.length_append, get_mid, get_mid0, set_mid, set_mid0, bookC, hone]
    repeat' ((first | refine GK_of (fun h => ?_) (fun h => ?_) | refine CW_of (fun h => ?_) (fun h => ?_) | refine GKT_of (fun h => ?_) (fun h => ?_)) <;> (try simp only [Bool.not_eq_true', Bool.not_eq_false', decide_eq_true_eq, decide_eq_false_iff_not, Bool.and_eq_true, Bool.or_eq_true, Bool.and_eq_false_iff, Bool.or_eq_false_iff, Decidable.not_not] at h) <;> first | (exfalso; omega) | skip)
    simp (disch := first | assumption | omega | (simp only [List.length_cons, List.length_nil, List.length_set, List.length_append] <;> omega) | (simp only [get_mid, get_mid0, List.cons_append, List.append_assoc, List.getElem?_cons_zero, List.getElem?_cons_succ])) only [ek, ↓evW, ↓evQ, evB, evS, evL, List.map, AV.cells, List.all, AV.one, Bool.and_true, Bool.true_and, if_true, ↓thenQ_normal, ↓thenQ_exit, ↓thenQ_ret, ↓blockQ_normal, ↓blockQ_ret, ↓blockQ_exit, ↓CW_true, ↓CW_false, CW_true, CW_false, condT, condF, RQ_some, tupA_one, tupA_two, tupA_nil, Nat.reduceSub, Nat.reduceAdd, Nat.reduceMul, Nat.zero_add, Nat.add_zero, Nat.reduceLeDiff, Nat.reduceEqDiff, eqV, eqAll, fillA, and_self, and_true, true_and, Nat.le_refl, Bool.not_true, Bool.not_false, Bool.false_xor, Bool.true_xor, cond_true, cond_false, List.replicate, if_false, reduceIte, resAll, resA, ne_eq, decide_not, decide_true, decide_false, Int.reduceEq, Bool.not_true, Bool.not_false, not_true_eq_false, not_false_eq_true, cond_bool, cond_int, beq_self_eq_true, Int.reduceBEq, Bool.and_self, Bool.and_false, Bool.false_and, Bool.xor_false, Bool.xor_true, loadN_ldC, ldC_none, ldC_somes, stC_aggs, splice, storeN_stC, stC_int, stC_bool, stC_ptr, stC_nilp, stC_sl, stC_nils, getC_gcO, gcO_cells, W_draw_eq, ↓W_scope, ev_clear, evT, evF, evX, evM, ↓exitQ_normal, ↓exitQ_ret, ↓exitQ_exit, saA_self, saO_self, if_pos, if_neg, wrapI, get_concat, set_concat, Int.toNat_natCast, Int.toNat_zero, List.nil_append, Nat.mul_one, decide_eq_true, decide_eq_false, Int.reduceLE, Int.reduceLT, Int.reduceNeg, Bool.false_or, Bool.true_or, Bool.or_false, Bool.or_true, wrapU, Int.reduceAdd, Int.reduceSub, Int.reduceMul, List.append_assoc, List.length_append, get_mid, get_mid0, set_mid, set_mid0, bookC, hone, a55, c_ref06_At, hat]
    have key : ∀ nw : Int, nw = (if kind = 2 ∨ (kind = 3 ∧ was = old) then x else if kind = 4 then IntKind.u64.wrap (was + x) else was) → ∀ x12 x13 x14 : AV, W G doT (resQ [.cell 6 (some 2), .cell 7 (some 4), .loc 8] (DoP m n es v kind a old x)) [.agg [.int .i64 n, v], .int .i64 kind, .int .i64 a, .int .u64 old, .int .u64 x, .ptr m.length 0, .ptr (m.length + 1) 0, .ptr (m.length + 2) 0, .bool false, .int .u64 was, .ptr (m.length + 4) 0, .skip, x12, x13, x14]
        (m ++ [.cells 2 false [.int .i64 n, v], .cells 2 false [.int .i64 0, .nils], .cells 4 false (accC ⟨0, 0, 0, 0⟩), .cells 2 false [.int .i64 n, v], .cells 4 false (accC ⟨kind, a, was, nw⟩)]) := by
      intro nw hnw x12 x13 x14
      refine do_tail (hs.keep (Keep.app m _)) hn ⟨kind, a, was, nw⟩ (by rw [get_mid0]; rfl) (by rw [get_mid]; rfl) (by rw [get_mid]; rfl) (by rw [get_mid]; rfl) _ _ _ _ _ _ _ _ _ ?_
      intro v' M' b0 b1 b2 hk hsa hf hnc
      have hl : m.length + 5 ≤ M'.length := by have := hk.1; simpa using this
      have hkm : Keep m M' := (Keep.app m _).trans hk
      refine ⟨((hkm.set (Nat.le_refl _) b0).set (by omega) b1).set (by omega) b2, .inr ⟨⟨kind, a, was, nw⟩, v', by rw [hd, hnw], rfl, ?_, ?_, hnc⟩⟩
      · refine ⟨hsa.1, ?_⟩
        rcases hf with h | ⟨q, o, k, cap, h, hq⟩
        · rcases hsa.2 with h' | ⟨q, o, cap, h', _⟩
          · exact .inl h'
          · rw [h] at h'; cases h'
        · rcases hsa.2 with h' | ⟨q', o', cap', h', h2⟩
          · exact .inl h'
          · refine .inr ⟨q', o', cap', h', fun h0 => ?_⟩
            rw [h] at h'; injection h' with e1 e2 e3 e4; subst e1
            obtain ⟨ro, L, h3⟩ := h2 h0
            simp at hq
            exact ⟨ro, L, by rw [List.getElem?_set_ne (by omega), List.getElem?_set_ne (by omega), List.getElem?_set_ne (by omega)]; exact h3.1, h3.2⟩
      · rcases hf with h | ⟨q, o, k, cap, h, hq⟩
        · exact .inl h
        · exact .inr ⟨q, o, k, cap, h, by simp at hq; omega⟩
    repeat' ((first | refine GK_of (fun h => ?_) (fun h => ?_) | refine CW_of (fun h => ?_) (fun h => ?_) | refine GKT_of (fun h => ?_) (fun h => ?_)) <;> (try simp only [Bool.not_eq_true', Bool.not_eq_false', decide_eq_true_eq, decide_eq_false_iff_not, Bool.and_eq_true, Bool.or_eq_true, Bool.and_eq_false_iff, Bool.or_eq_false_iff, Decidable.not_not] at h) <;> (try simp (disch := first | assumption | omega | (simp only [List.length_cons, List.length_nil, List.length_set, List.length_append] <;> omega) | (simp only [get_mid, get_mid0, List.cons_append, List.append_assoc, List.getElem?_cons_zero, List.getElem?_cons_succ])) only [ek, ↓evW, ↓evQ, evB, evS, evL, List.map, AV.cells, List.all, AV.one, Bool.and_true, Bool.true_and, if_true, ↓thenQ_normal, ↓thenQ_exit, ↓thenQ_ret, ↓blockQ_normal, ↓blockQ_ret, ↓blockQ_exit, ↓CW_true, ↓CW_false, CW_true, CW_false, condT, condF, RQ_some, tupA_one, tupA_two, tupA_nil, Nat.reduceSub, Nat.reduceAdd, Nat.reduceMul, Nat.zero_add, Nat.add_zero, Nat.reduceLeDiff, Nat.reduceEqDiff, eqV, eqAll, fillA, and_self, and_true, true_and, Nat.le_refl, Bool.not_true, Bool.not_false, Bool.false_xor, Bool.true_xor, cond_true, cond_false, List.replicate, if_false, reduceIte, resAll, resA, ne_eq, decide_not, decide_true, decide_false, Int.reduceEq, Bool.not_true, Bool.not_false, not_true_eq_false, not_false_eq_true, cond_bool, cond_int, beq_self_eq_true, Int.reduceBEq, Bool.and_self, Bool.and_false, Bool.false_and, Bool.xor_false, Bool.xor_true, loadN_ldC, ldC_none, ldC_somes, stC_aggs, splice, storeN_stC, stC_int, stC_bool, stC_ptr, stC_nilp, stC_sl, stC_nils, getC_gcO, gcO_cells, W_draw_eq, ↓W_scope, ev_clear, evT, evF, evX, evM, ↓exitQ_normal, ↓exitQ_ret, ↓exitQ_exit, saA_self, saO_self, if_pos, if_neg, wrapI, get_concat, set_concat, Int.toNat_natCast, Int.toNat_zero, List.nil_append, Nat.mul_one, decide_eq_true, decide_eq_false, Int.reduceLE, Int.reduceLT, Int.reduceNeg, Bool.false_or, Bool.true_or, Bool.or_false, Bool.or_true, wrapU, Int.reduceAdd, Int.reduceSub, Int.reduceMul, List.append_assoc, List.length_append, get_mid, get_mid0, set_mid, set_mid0, bookC, hone]))
    all_goals (try (exfalso; omega))
    all_goals generalize IntKind.u64.wrap (was + x) = wx at key ⊢
    all_goals first | refine key x ?_ _ _ _ | refine key wx ?_ _ _ _ | refine key was ?_ _ _ _
    all_goals clear key hat hd hr hone hs hok
    all_goals simp_all
end
end Go.Am.F06
