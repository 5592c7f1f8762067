/- SameBook: a memory and its book stand for the same. -/
import Derived.Test.YtldpldoehjpnaaaXD06
set_option linter.unusedSimpArgs false
set_option linter.unusedVariables false
namespace Go.Am.F06
section
variable {X : Type}
abbrev SU (m : Mem X) (wr : Bool) (xs : List Int) (v : AV) : Prop := Sl m wr 1 xs.length (uC xs) v
theorem uC_len (xs : List Int) : (uC xs).length = xs.length := by simp [uC]
theorem uC_one (xs : List Int) : (uC xs).all AV.one = true := by simp [uC, AV.one]
theorem uC_set (xs : List Int) (i : Nat) (x : Int) : (uC xs).set i (.int .u64 x) = uC (xs.set i x) := by simp [uC, List.map_set]
theorem SU.get {m : Mem X} {wr : Bool} {xs : List Int} {v : AV} (h : SU m wr xs v) {i : Nat} {x : Int} (hx : xs[i]? = some x) : ∃ q o cap ro L, v = .sl q o xs.length cap ∧ m[q]? = some (.cells 1 ro L) ∧ (wr = true → ro = false) ∧ i < xs.length ∧ o + i < L.length ∧ L[o + i]? = some (.int .u64 x) := by
  have hi : i < xs.length := (List.getElem?_eq_some_iff.1 hx).1
  obtain ⟨q, o, cap, ro, L, rfl, h2, h3, h4, h5⟩ := h.at (by omega)
  exact ⟨q, o, cap, ro, L, rfl, h2, h5, hi, by omega, by rw [sl_get h3 (by omega)]; simp [uC, hx]⟩
/-- Not that chunk. -/
def Off (q : Nat) (v : AV) : Prop := ∀ q' o n cap, v = .sl q' o n cap → 0 < n → q' ≠ q
theorem KeepB.off {k : Nat} {m m' : Mem X} (h : KeepB k m m') {wr : Bool} {sz n : Nat} {l : List AV} {v : AV} (ho : Off k v) (hs : Sl m wr sz n l v) : Sl m' wr sz n l v := by
  refine ⟨hs.1, ?_⟩
  rcases hs.2 with h1 | ⟨q, o, cap, h1, h2⟩
  · exact .inl h1
  · refine .inr ⟨q, o, cap, h1, fun h0 => ?_⟩
    obtain ⟨ro, L, h3, h4⟩ := h2 h0
    exact ⟨ro, L, h.get h3 (ho _ _ _ _ h1 h0), h4⟩

def AllI (M : Mem X) (n : Nat) (es : List Acc) (v : AV) (k : Nat) (e : List AV) (m : Mem X) : Prop := ∃ (i : Nat) (x5 : AV),
  e = [.agg (bookC n v), .ptr M.length 0, .nils, .sl (M.length + 1) 0 n (some n), .int .i64 i, x5] ∧ m = M ++ [.cells 2 false (bookC n v), .cells 1 false (uC (cellsOf n (es.take i)))] ∧ k = es.length - i ∧ i ≤ es.length

set_option maxHeartbeats 2000000 in
theorem refall_run {G : List (Nat × AFun X)} {m : Mem X} {wr : Bool} {n : Nat} {es : List Acc} {v : AV} (hs : SA m wr es v) (hok : okE n es) (hl : es.length ≤ 1000) (hn : n ≤ 65536) :
    Fn G ref06_All [.agg (bookC n v)] m (fun r m' => r = .sl (m.length + 1) 0 n (some n) ∧ m' = m ++ [.cells 2 false (bookC n v), .cells 1 false (uC (cellsOf n es))]) := by
  have hlen := hs.len
  have hone := hs.one
  simp only [AV.one] at hone
  have hmk : ∀ M : Mem X, amOp G (.make 1 8 [.int .u64 0]) [.int .i64 n, .int .i64 n] M = some (.sl M.length 0 n (some n), M ++ [.cells 1 false (uC (cellsOf n []))]) := fun M => by
    have hrep : repeatL n [AV.int .u64 0] = uC (cellsOf n []) := by simp [repeatL, uC, cellsOf_nil]
    simp only [amOp]
    rw [if_pos (by omega), Int.toNat_natCast, hrep]
  refine Fn_of rfl ?_
  simp (disch := first | assumption | omega | (simp only [List.length_cons, List.length_nil, List.length_set, List.length_append] <;> omega) | (simp only [get_mid, get_mid0, List.cons_append, List.append_assoc, List.getElem?_cons_zero, List.getElem?_cons_succ])) only [ref06_All, ek, ↓evW, ↓evQ, evB, evS, evL, List.map, AV.cells, List.all, AV.one, Bool.and_true, Bool.true_and, if_true, ↓thenQ_normal, ↓thenQ_exit, ↓thenQ_ret, ↓blockQ_normal, ↓blockQ_ret, ↓blockQ_exit, ↓CW_true, ↓CW_false, CW_true, CW_false, condT, condF, RQ_some, tupA_one, tupA_two, tupA_nil, Nat.reduceSub, Nat.reduceAdd, Nat.reduceMul, Nat.zero_add, Nat.add_zero, Nat.reduceLeDiff, Nat.reduceEqDiff, eqV, eqAll, fillA, and_self, and_true, true_and, Nat.le_refl, Bool.not_true, Bool.not_false, Bool.false_xor, Bool.true_xor, cond_true, cond_false, List.replicate, if_false, reduceIte, resAll, resA, ne_eq, decide_not, decide_true, decide_false, Int.reduceEq, Bool.not_true, Bool.not_false, not_true_eq_false, not_false_eq_true, cond_bool, cond_int, beq_self_eq_true, Int.reduceBEq, Bool.and_self, Bool.and_false, Bool.false_and, Bool.xor_false, Bool.xor_true, loadN_ldC, ldC_none, ldC_somes, stC_aggs, splice, storeN_stC, stC_int, stC_bool, stC_ptr, stC_nilp, stC_sl, stC_nils, getC_gcO, gcO_cells, W_draw_eq, ↓W_scope, ev_clear, evT, evF, evX, evM, ↓exitQ_normal, ↓exitQ_ret, ↓exitQ_exit, saA_self, saO_self, if_pos, if_neg, wrapI, get_concat, set_concat, Int.toNat_natCast, Int.toNat_zero, List.nil_append, Nat.mul_one, decide_eq_true, decide_eq_false, Int.reduceLE, Int.reduceLT, Int.reduceNeg, Bool.false_or, Bool.true_or, Bool.or_false, Bool.or_true, wrapU, Int.reduceAdd, Int.reduceSub, Int.reduceMul, List.append_assoc, List.length_append, get_mid, get_mid0, set_mid, set_mid0, bookC, ev_len, hlen, hone, hmk]
  refine W_loop (AllI m n es v) es.length (by simp only [FUEL]; omega) ⟨0, _, rfl, rfl, rfl, by omega⟩ ?_
  rintro k e m' ⟨i, x5, rfl, rfl, rfl, hi⟩
  simp (disch := first | assumption | omega | (simp only [List.length_cons, List.length_nil, List.length_set, List.length_append] <;> omega) | (simp only [get_mid, get_mid0, List.cons_append, List.append_assoc, List.getElem?_cons_zero, List.getElem?_cons_succ])) only [ek, ↓evW, ↓evQ, evB, evS, evL, List.map, AV.cells, List.all, AV.one, Bool.and_true, Bool.true_and, if_true, ↓thenQ_normal, ↓thenQ_exit, ↓thenQ_ret, ↓blockQ_normal, ↓blockQ_ret, ↓blockQ_exit, ↓CW_true, ↓CW_false, CW_true, CW_false, condT, condF, RQ_some, tupA_one, tupA_two, tupA_nil, Nat.reduceSub, Nat.reduceAdd, Nat.reduceMul, Nat.zero_add, Nat.add_zero, Nat.reduceLeDiff, Nat.reduceEqDiff, eqV, eqAll, fillA, and_self, and_true, true_and, Nat.le_refl, Bool.not_true, Bool.not_false, Bool.false_xor, Bool.true_xor, cond_true, cond_false, List.replicate, if_false, reduceIte, resAll, resA, ne_eq, decide_not, decide_true, decide_false, Int.reduceEq, Bool.not_true, Bool.not_false, not_true_eq_false, not_false_eq_true, cond_bool, cond_int, beq_self_eq_true, Int.reduceBEq, Bool.and_self, Bool.and_false, Bool.false_and, Bool.xor_false, Bool.xor_true, loadN_ldC, ldC_none, ldC_somes, stC_aggs, splice, storeN_stC, stC_int, stC_bool, stC_ptr, stC_nilp, stC_sl, stC_nils, getC_gcO, gcO_cells, W_draw_eq, ↓W_scope, ev_clear, evT, evF, evX, evM, ↓exitQ_normal, ↓exitQ_ret, ↓exitQ_exit, saA_self, saO_self, if_pos, if_neg, wrapI, get_concat, set_concat, Int.toNat_natCast, Int.toNat_zero, List.nil_append, Nat.mul_one, decide_eq_true, decide_eq_false, Int.reduceLE, Int.reduceLT, Int.reduceNeg, Bool.false_or, Bool.true_or, Bool.or_false, Bool.or_true, wrapU, Int.reduceAdd, Int.reduceSub, Int.reduceMul, List.append_assoc, List.length_append, get_mid, get_mid0, set_mid, set_mid0, bookC, ev_len, hlen]
  refine CW_of (fun h => ?_) (fun h => ?_)
  · simp only [decide_eq_true_eq] at h
    obtain ⟨e, he⟩ : ∃ e, es[i]? = some e := ⟨_, List.getElem?_eq_getElem (by omega)⟩
    obtain ⟨q, o, cap, ro, L, rfl, hq, _, g1, g2, g3, g4, g5, g6, g7⟩ := hs.get he
    have hq' : ∀ K : Mem X, (m ++ K)[q]? = some (.cells 4 ro L) := fun K => by rw [List.getElem?_append_left (List.getElem?_eq_some_iff.1 hq).1]; exact hq
    have hok := okE_at hok he
    have hul : (uC (cellsOf n (es.take i))).length = n := by rw [uC_len, cellsOf_len]
    simp (disch := first | assumption | omega | (simp only [List.length_cons, List.length_nil, List.length_set, List.length_append] <;> omega) | (simp only [get_mid, get_mid0, List.cons_append, List.append_assoc, List.getElem?_cons_zero, List.getElem?_cons_succ])) only [ek, ↓evW, ↓evQ, evB, evS, evL, List.map, AV.cells, List.all, AV.one, Bool.and_true, Bool.true_and, if_true, ↓thenQ_normal, ↓thenQ_exit, ↓thenQ_ret, ↓blockQ_normal, ↓blockQ_ret, ↓blockQ_exit, ↓CW_true, ↓CW_false, CW_true, CW_false, condT, condF, RQ_some, tupA_one, tupA_two, tupA_nil, Nat.reduceSub, Nat.reduceAdd, Nat.reduceMul, Nat.zero_add, Nat.add_zero, Nat.reduceLeDiff, Nat.reduceEqDiff, eqV, eqAll, fillA, and_self, and_true, true_and, Nat.le_refl, Bool.not_true, Bool.not_false, Bool.false_xor, Bool.true_xor, cond_true, cond_false, List.replicate, if_false, reduceIte, resAll, resA, ne_eq, decide_not, decide_true, decide_false, Int.reduceEq, Bool.not_true, Bool.not_false, not_true_eq_false, not_false_eq_true, cond_bool, cond_int, beq_self_eq_true, Int.reduceBEq, Bool.and_self, Bool.and_false, Bool.false_and, Bool.xor_false, Bool.xor_true, loadN_ldC, ldC_none, ldC_somes, stC_aggs, splice, storeN_stC, stC_int, stC_bool, stC_ptr, stC_nilp, stC_sl, stC_nils, getC_gcO, gcO_cells, W_draw_eq, ↓W_scope, ev_clear, evT, evF, evX, evM, ↓exitQ_normal, ↓exitQ_ret, ↓exitQ_exit, saA_self, saO_self, if_pos, if_neg, wrapI, get_concat, set_concat, Int.toNat_natCast, Int.toNat_zero, List.nil_append, Nat.mul_one, decide_eq_true, decide_eq_false, Int.reduceLE, Int.reduceLT, Int.reduceNeg, Bool.false_or, Bool.true_or, Bool.or_false, Bool.or_true, wrapU, Int.reduceAdd, Int.reduceSub, Int.reduceMul, List.append_assoc, List.length_append, get_mid, get_mid0, set_mid, set_mid0, hq', g5, g7, hul, uC_set]
    refine ⟨_, by omega, i + 1, _, rfl, by rw [cellsOf_take he]; rfl, rfl, by omega⟩
  · simp only [decide_eq_false_iff_not] at h
    have hi : i = es.length := by omega
    subst hi
    simp (disch := first | assumption | omega | (simp only [List.length_cons, List.length_nil, List.length_set, List.length_append] <;> omega) | (simp only [get_mid, get_mid0, List.cons_append, List.append_assoc, List.getElem?_cons_zero, List.getElem?_cons_succ])) only [ek, ↓evW, ↓evQ, evB, evS, evL, List.map, AV.cells, List.all, AV.one, Bool.and_true, Bool.true_and, if_true, ↓thenQ_normal, ↓thenQ_exit, ↓thenQ_ret, ↓blockQ_normal, ↓blockQ_ret, ↓blockQ_exit, ↓CW_true, ↓CW_false, CW_true, CW_false, condT, condF, RQ_some, tupA_one, tupA_two, tupA_nil, Nat.reduceSub, Nat.reduceAdd, Nat.reduceMul, Nat.zero_add, Nat.add_zero, Nat.reduceLeDiff, Nat.reduceEqDiff, eqV, eqAll, fillA, and_self, and_true, true_and, Nat.le_refl, Bool.not_true, Bool.not_false, Bool.false_xor, Bool.true_xor, cond_true, cond_false, List.replicate, if_false, reduceIte, resAll, resA, ne_eq, decide_not, decide_true, decide_false, Int.reduceEq, Bool.not_true, Bool.not_false, not_true_eq_false, not_false_eq_true, cond_bool, cond_int, beq_self_eq_true, Int.reduceBEq, Bool.and_self, Bool.and_false, Bool.false_and, Bool.xor_false, Bool.xor_true, loadN_ldC, ldC_none, ldC_somes, stC_aggs, splice, storeN_stC, stC_int, stC_bool, stC_ptr, stC_nilp, stC_sl, stC_nils, getC_gcO, gcO_cells, W_draw_eq, ↓W_scope, ev_clear, evT, evF, evX, evM, ↓exitQ_normal, ↓exitQ_ret, ↓exitQ_exit, saA_self, saO_self, if_pos, if_neg, wrapI, get_concat, set_concat, Int.toNat_natCast, Int.toNat_zero, List.nil_append, Nat.mul_one, decide_eq_true, decide_eq_false, Int.reduceLE, Int.reduceLT, Int.reduceNeg, Bool.false_or, Bool.true_or, Bool.or_false, Bool.or_true, wrapU, Int.reduceAdd, Int.reduceSub, Int.reduceMul, List.append_assoc, List.length_append, get_mid, get_mid0, set_mid, set_mid0, List.take_length]

set_option maxRecDepth 20000 in
set_option maxHeartbeats 2000000 in
theorem reflog_run {G : List (Nat × AFun X)} {m : Mem X} {wr : Bool} {n : Nat} {es : List Acc} {v : AV} (hs : SA m wr es v) (hnc : Nc v) (hl : es.length ≤ 1000) :
    ∃ r, SA m wr (es.drop (es.length - 256)) r ∧ (∀ q, Off q v → Off q r) ∧ Fn G ref06_Log [.agg (bookC n v)] m (fun r' m' => r' = r ∧ m' = m ++ [.cells 2 false (bookC n v)]) := by
  have hlen := hs.len
  rcases hnc with rfl | ⟨q, o, k, rfl⟩
  · have h0 : es.length = 0 := by simpa [lenA] using hlen.symm
    have he : es = [] := List.length_eq_zero_iff.1 h0
    subst he
    refine ⟨.nils, Sl.nil, fun _ h => h, Fn_of rfl ?_⟩
    have hsl : ∀ K : Mem X, sliceA K 4 .nils (some 0) none none = some .nils := fun _ => rfl
    simp (disch := first | assumption | omega | (simp only [List.length_cons, List.length_nil, List.length_set, List.length_append] <;> omega) | (simp only [get_mid, get_mid0, List.cons_append, List.append_assoc, List.getElem?_cons_zero, List.getElem?_cons_succ])) only [ref06_Log, ek, ↓evW, ↓evQ, evB, evS, evL, List.map, AV.cells, List.all, AV.one, Bool.and_true, Bool.true_and, if_true, ↓thenQ_normal, ↓thenQ_exit, ↓thenQ_ret, ↓blockQ_normal, ↓blockQ_ret, ↓blockQ_exit, ↓CW_true, ↓CW_false, CW_true, CW_false, condT, condF, RQ_some, tupA_one, tupA_two, tupA_nil, Nat.reduceSub, Nat.reduceAdd, Nat.reduceMul, Nat.zero_add, Nat.add_zero, Nat.reduceLeDiff, Nat.reduceEqDiff, eqV, eqAll, fillA, and_self, and_true, true_and, Nat.le_refl, Bool.not_true, Bool.not_false, Bool.false_xor, Bool.true_xor, cond_true, cond_false, List.replicate, if_false, reduceIte, resAll, resA, ne_eq, decide_not, decide_true, decide_false, Int.reduceEq, Bool.not_true, Bool.not_false, not_true_eq_false, not_false_eq_true, cond_bool, cond_int, beq_self_eq_true, Int.reduceBEq, Bool.and_self, Bool.and_false, Bool.false_and, Bool.xor_false, Bool.xor_true, loadN_ldC, ldC_none, ldC_somes, stC_aggs, splice, storeN_stC, stC_int, stC_bool, stC_ptr, stC_nilp, stC_sl, stC_nils, getC_gcO, gcO_cells, W_draw_eq, ↓W_scope, ev_clear, evT, evF, evX, evM, ↓exitQ_normal, ↓exitQ_ret, ↓exitQ_exit, saA_self, saO_self, if_pos, if_neg, wrapI, get_concat, set_concat, Int.toNat_natCast, Int.toNat_zero, List.nil_append, Nat.mul_one, decide_eq_true, decide_eq_false, Int.reduceLE, Int.reduceLT, Int.reduceNeg, Bool.false_or, Bool.true_or, Bool.or_false, Bool.or_true, wrapU, Int.reduceAdd, Int.reduceSub, Int.reduceMul, List.append_assoc, List.length_append, get_mid, get_mid0, set_mid, set_mid0, bookC, evA, hsl]
  · have hk : k + 1 = es.length := by simpa [lenA] using hlen
    obtain ⟨q', o', cap, ro, L, h1, h2, h3, h4, h5⟩ := hs.at (by omega)
    injection h1 with e1 e2 e3 e4
    subst e1; subst e2; subst e4
    generalize hd : es.length - 256 = d
    have hdl : (es.drop d).length = k + 1 - d := by rw [List.length_drop, hk]
    refine ⟨.sl q (o + d * 4) (k + 1 - d) none, ⟨by rw [accs_len], .inr ⟨q, _, none, by rw [hdl], fun h0 => ⟨ro, L, h2, ?_, by rw [hdl]; omega, h5⟩⟩⟩, fun x h q' o' n' c' he h0 => ?_, Fn_of rfl ?_⟩
    · have := accs_drop (es.take d) (es.drop d)
      rw [List.take_append_drop, List.length_take, Nat.min_eq_left (by omega)] at this
      rw [← this, ← h3, List.drop_take, List.drop_drop, hdl]
      congr 1; omega
    · injection he with e1 e2 e3; subst e1
      exact h _ _ _ _ rfl (by omega)
    · have hmax : (if ((k + 1 : Nat) : Int) - 256 > 0 then ((k + 1 : Nat) : Int) - 256 else 0) = d := by split <;> omega
      clear hs hlen h3
      have hq' : ∀ K : Mem X, getC (m ++ K) q = some (4, ro, L) := fun K => by rw [getC_gcO, List.getElem?_append_left (List.getElem?_eq_some_iff.1 h2).1, h2]; rfl
      have hsl : ∀ K : Mem X, sliceA (m ++ K) 4 (.sl q o (k + 1) none) (some d) none none = some (.sl q (o + d * 4) (k + 1 - d) none) := fun K => by
        simp only [sliceA, hq', Option.getD_none, Option.getD_some]
        rw [if_pos ⟨trivial, Nat.le_refl _, by omega⟩]
      simp (disch := first | assumption | omega | (simp only [List.length_cons, List.length_nil, List.length_set, List.length_append] <;> omega) | (simp only [get_mid, get_mid0, List.cons_append, List.append_assoc, List.getElem?_cons_zero, List.getElem?_cons_succ])) only [ref06_Log, ek, ↓evW, ↓evQ, evB, evS, evL, List.map, AV.cells, List.all, AV.one, Bool.and_true, Bool.true_and, if_true, ↓thenQ_normal, ↓thenQ_exit, ↓thenQ_ret, ↓blockQ_normal, ↓blockQ_ret, ↓blockQ_exit, ↓CW_true, ↓CW_false, CW_true, CW_false, condT, condF, RQ_some, tupA_one, tupA_two, tupA_nil, Nat.reduceSub, Nat.reduceAdd, Nat.reduceMul, Nat.zero_add, Nat.add_zero, Nat.reduceLeDiff, Nat.reduceEqDiff, eqV, eqAll, fillA, and_self, and_true, true_and, Nat.le_refl, Bool.not_true, Bool.not_false, Bool.false_xor, Bool.true_xor, cond_true, cond_false, List.replicate, if_false, reduceIte, resAll, resA, ne_eq, decide_not, decide_true, decide_false, Int.reduceEq, Bool.not_true, Bool.not_false, not_true_eq_false, not_false_eq_true, cond_bool, cond_int, beq_self_eq_true, Int.reduceBEq, Bool.and_self, Bool.and_false, Bool.false_and, Bool.xor_false, Bool.xor_true, loadN_ldC, ldC_none, ldC_somes, stC_aggs, splice, storeN_stC, stC_int, stC_bool, stC_ptr, stC_nilp, stC_sl, stC_nils, getC_gcO, gcO_cells, W_draw_eq, ↓W_scope, ev_clear, evT, evF, evX, evM, ↓exitQ_normal, ↓exitQ_ret, ↓exitQ_exit, saA_self, saO_self, if_pos, if_neg, wrapI, get_concat, set_concat, Int.toNat_natCast, Int.toNat_zero, List.nil_append, Nat.mul_one, decide_eq_true, decide_eq_false, Int.reduceLE, Int.reduceLT, Int.reduceNeg, Bool.false_or, Bool.true_or, Bool.or_false, Bool.or_true, wrapU, Int.reduceAdd, Int.reduceSub, Int.reduceMul, List.append_assoc, List.length_append, get_mid, get_mid0, set_mid, set_mid0, bookC, evA, hmax, hsl]

def slq : AV → Nat
  | .sl q _ _ _ => q
  | _ => 0
def ScI (M : Mem X) (xs : List Int) (l r : AV) (wr : Bool) (k : Nat) (e : List AV) (m : Mem X) : Prop := ∃ (i : Nat) (xs' : List Int) (x4 x5 x6 : AV),
  e = [l, r, .bool false, .int .i64 i, x4, x5, x6] ∧ k = xs.length - i ∧ i ≤ xs.length ∧ KeepB (slq l) M m ∧ SU m true xs' l ∧ xs'.length = xs.length ∧ (∀ j, i ≤ j → xs'[j]? = xs[j]?) ∧ SU m wr xs r
set_option maxHeartbeats 2000000 in
theorem samecells_run {G : List (Nat × AFun X)} {M : Mem X} {wr : Bool} {xs : List Int} {l r : AV} (hl : SU M true xs l) (hr : SU M wr xs r) (ho : Off (slq l) r) (hx : xs.length ≤ 65536) :
    Fn G docs_SameCells [l, r] M (fun v m' => v = .bool true ∧ KeepB (slq l) M m') := by
  have h1 := hl.len
  have h2 := hr.len
  refine Fn_of rfl ?_
  simp (disch := first | assumption | omega | (simp only [List.length_cons, List.length_nil, List.length_set, List.length_append] <;> omega) | (simp only [get_mid, get_mid0, List.cons_append, List.append_assoc, List.getElem?_cons_zero, List.getElem?_cons_succ])) only [docs_SameCells, ek, ↓evW, ↓evQ, evB, evS, evL, List.map, AV.cells, List.all, AV.one, Bool.and_true, Bool.true_and, if_true, ↓thenQ_normal, ↓thenQ_exit, ↓thenQ_ret, ↓blockQ_normal, ↓blockQ_ret, ↓blockQ_exit, ↓CW_true, ↓CW_false, CW_true, CW_false, condT, condF, RQ_some, tupA_one, tupA_two, tupA_nil, Nat.reduceSub, Nat.reduceAdd, Nat.reduceMul, Nat.zero_add, Nat.add_zero, Nat.reduceLeDiff, Nat.reduceEqDiff, eqV, eqAll, fillA, and_self, and_true, true_and, Nat.le_refl, Bool.not_true, Bool.not_false, Bool.false_xor, Bool.true_xor, cond_true, cond_false, List.replicate, if_false, reduceIte, resAll, resA, ne_eq, decide_not, decide_true, decide_false, Int.reduceEq, Bool.not_true, Bool.not_false, not_true_eq_false, not_false_eq_true, cond_bool, cond_int, beq_self_eq_true, Int.reduceBEq, Bool.and_self, Bool.and_false, Bool.false_and, Bool.xor_false, Bool.xor_true, loadN_ldC, ldC_none, ldC_somes, stC_aggs, splice, storeN_stC, stC_int, stC_bool, stC_ptr, stC_nilp, stC_sl, stC_nils, getC_gcO, gcO_cells, W_draw_eq, ↓W_scope, ev_clear, evT, evF, evX, evM, ↓exitQ_normal, ↓exitQ_ret, ↓exitQ_exit, saA_self, saO_self, if_pos, if_neg, wrapI, get_concat, set_concat, Int.toNat_natCast, Int.toNat_zero, List.nil_append, Nat.mul_one, decide_eq_true, decide_eq_false, Int.reduceLE, Int.reduceLT, Int.reduceNeg, Bool.false_or, Bool.true_or, Bool.or_false, Bool.or_true, wrapU, Int.reduceAdd, Int.reduceSub, Int.reduceMul, ev_len, h1, h2]
  refine W_loop (ScI M xs l r wr) xs.length (by simp only [FUEL]; omega) ⟨0, xs, _, _, _, rfl, rfl, by omega, KeepB.refl _, hl, rfl, fun _ _ => rfl, hr⟩ ?_
  rintro k e m' ⟨i, xs', x4, x5, x6, rfl, rfl, hi, hk, sl, hxl, hxe, sr⟩
  simp (disch := first | assumption | omega | (simp only [List.length_cons, List.length_nil, List.length_set, List.length_append] <;> omega) | (simp only [get_mid, get_mid0, List.cons_append, List.append_assoc, List.getElem?_cons_zero, List.getElem?_cons_succ])) only [ek, ↓evW, ↓evQ, evB, evS, evL, List.map, AV.cells, List.all, AV.one, Bool.and_true, Bool.true_and, if_true, ↓thenQ_normal, ↓thenQ_exit, ↓thenQ_ret, ↓blockQ_normal, ↓blockQ_ret, ↓blockQ_exit, ↓CW_true, ↓CW_false, CW_true, CW_false, condT, condF, RQ_some, tupA_one, tupA_two, tupA_nil, Nat.reduceSub, Nat.reduceAdd, Nat.reduceMul, Nat.zero_add, Nat.add_zero, Nat.reduceLeDiff, Nat.reduceEqDiff, eqV, eqAll, fillA, and_self, and_true, true_and, Nat.le_refl, Bool.not_true, Bool.not_false, Bool.false_xor, Bool.true_xor, cond_true, cond_false, List.replicate, if_false, reduceIte, resAll, resA, ne_eq, decide_not, decide_true, decide_false, Int.reduceEq, Bool.not_true, Bool.not_false, not_true_eq_false, not_false_eq_true, cond_bool, cond_int, beq_self_eq_true, Int.reduceBEq, Bool.and_self, Bool.and_false, Bool.false_and, Bool.xor_false, Bool.xor_true, loadN_ldC, ldC_none, ldC_somes, stC_aggs, splice, storeN_stC, stC_int, stC_bool, stC_ptr, stC_nilp, stC_sl, stC_nils, getC_gcO, gcO_cells, W_draw_eq, ↓W_scope, ev_clear, evT, evF, evX, evM, ↓exitQ_normal, ↓exitQ_ret, ↓exitQ_exit, saA_self, saO_self, if_pos, if_neg, wrapI, get_concat, set_concat, Int.toNat_natCast, Int.toNat_zero, List.nil_append, Nat.mul_one, decide_eq_true, decide_eq_false, Int.reduceLE, Int.reduceLT, Int.reduceNeg, Bool.false_or, Bool.true_or, Bool.or_false, Bool.or_true, wrapU, Int.reduceAdd, Int.reduceSub, Int.reduceMul, ev_len, h1]
  refine CW_of (fun h => ?_) (fun h => ?_)
  · simp only [decide_eq_true_eq] at h
    obtain ⟨x, hxi⟩ : ∃ x, xs[i]? = some x := ⟨_, List.getElem?_eq_getElem (by omega)⟩
    have hxi' : xs'[i]? = some x := by rw [hxe i (Nat.le_refl _)]; exact hxi
    obtain ⟨q, o, cap, ro, L, rfl, b2, b3, b4, b5, b6⟩ := sl.get hxi'
    have := b3 rfl; subst this
    obtain ⟨q2, o2, cap2, ro2, L2, rfl, c2, c3, c4, c5, c6⟩ := sr.get hxi
    have hne : q2 ≠ q := ho _ _ _ _ rfl (by omega)
    simp (disch := first | assumption | omega | (simp only [List.length_cons, List.length_nil, List.length_set, List.length_append] <;> omega) | (simp only [get_mid, get_mid0, List.cons_append, List.append_assoc, List.getElem?_cons_zero, List.getElem?_cons_succ])) only [ek, ↓evW, ↓evQ, evB, evS, evL, List.map, AV.cells, List.all, AV.one, Bool.and_true, Bool.true_and, if_true, ↓thenQ_normal, ↓thenQ_exit, ↓thenQ_ret, ↓blockQ_normal, ↓blockQ_ret, ↓blockQ_exit, ↓CW_true, ↓CW_false, CW_true, CW_false, condT, condF, RQ_some, tupA_one, tupA_two, tupA_nil, Nat.reduceSub, Nat.reduceAdd, Nat.reduceMul, Nat.zero_add, Nat.add_zero, Nat.reduceLeDiff, Nat.reduceEqDiff, eqV, eqAll, fillA, and_self, and_true, true_and, Nat.le_refl, Bool.not_true, Bool.not_false, Bool.false_xor, Bool.true_xor, cond_true, cond_false, List.replicate, if_false, reduceIte, resAll, resA, ne_eq, decide_not, decide_true, decide_false, Int.reduceEq, Bool.not_true, Bool.not_false, not_true_eq_false, not_false_eq_true, cond_bool, cond_int, beq_self_eq_true, Int.reduceBEq, Bool.and_self, Bool.and_false, Bool.false_and, Bool.xor_false, Bool.xor_true, loadN_ldC, ldC_none, ldC_somes, stC_aggs, splice, storeN_stC, stC_int, stC_bool, stC_ptr, stC_nilp, stC_sl, stC_nils, getC_gcO, gcO_cells, W_draw_eq, ↓W_scope, ev_clear, evT, evF, evX, evM, ↓exitQ_normal, ↓exitQ_ret, ↓exitQ_exit, saA_self, saO_self, if_pos, if_neg, wrapI, get_concat, set_concat, Int.toNat_natCast, Int.toNat_zero, List.nil_append, Nat.mul_one, decide_eq_true, decide_eq_false, Int.reduceLE, Int.reduceLT, Int.reduceNeg, Bool.false_or, Bool.true_or, Bool.or_false, Bool.or_true, wrapU, Int.reduceAdd, Int.reduceSub, Int.reduceMul, b2, b6, c2, c6]
    refine ⟨_, by omega, i + 1, xs'.set i (IntKind.u64.wrap (x + 77)), _, _, _, rfl, rfl, by omega, hk.trans (KeepB.at _ _), ?_, by simp [hxl], fun j hj => by rw [List.getElem?_set_ne (by omega)]; exact hxe j (by omega), (KeepB.at _ _).off ho sr⟩
    obtain ⟨hlen, hsl⟩ := sl
    rcases hsl with ⟨h, _⟩ | ⟨q', o', cap', h, h5⟩
    · cases h
    · injection h with e1 e2 e3 e4; subst e1; subst e2; subst e4
      obtain ⟨ro, L', d1, d2, d3, d4⟩ := h5 (by omega)
      rw [b2] at d1; injection d1 with d1; injection d1 with _ _ d1; subst d1
      refine ⟨by simp [uC_len], .inr ⟨q, o, cap, by rw [List.length_set], fun _ => ⟨false, _, List.getElem?_set_self (List.getElem?_eq_some_iff.1 b2).1, ?_, by simpa using d3, fun _ => rfl⟩⟩⟩
      rw [List.length_set, List.drop_set, if_neg (by omega), List.take_set, d2, ← uC_set]
      congr 1; omega
  · simp only [decide_eq_false_iff_not] at h
    simp (disch := first | assumption | omega | (simp only [List.length_cons, List.length_nil, List.length_set, List.length_append] <;> omega) | (simp only [get_mid, get_mid0, List.cons_append, List.append_assoc, List.getElem?_cons_zero, List.getElem?_cons_succ])) only [ek, ↓evW, ↓evQ, evB, evS, evL, List.map, AV.cells, List.all, AV.one, Bool.and_true, Bool.true_and, if_true, ↓thenQ_normal, ↓thenQ_exit, ↓thenQ_ret, ↓blockQ_normal, ↓blockQ_ret, ↓blockQ_exit, ↓CW_true, ↓CW_false, CW_true, CW_false, condT, condF, RQ_some, tupA_one, tupA_two, tupA_nil, Nat.reduceSub, Nat.reduceAdd, Nat.reduceMul, Nat.zero_add, Nat.add_zero, Nat.reduceLeDiff, Nat.reduceEqDiff, eqV, eqAll, fillA, and_self, and_true, true_and, Nat.le_refl, Bool.not_true, Bool.not_false, Bool.false_xor, Bool.true_xor, cond_true, cond_false, List.replicate, if_false, reduceIte, resAll, resA, ne_eq, decide_not, decide_true, decide_false, Int.reduceEq, Bool.not_true, Bool.not_false, not_true_eq_false, not_false_eq_true, cond_bool, cond_int, beq_self_eq_true, Int.reduceBEq, Bool.and_self, Bool.and_false, Bool.false_and, Bool.xor_false, Bool.xor_true, loadN_ldC, ldC_none, ldC_somes, stC_aggs, splice, storeN_stC, stC_int, stC_bool, stC_ptr, stC_nilp, stC_sl, stC_nils, getC_gcO, gcO_cells, W_draw_eq, ↓W_scope, ev_clear, evT, evF, evX, evM, ↓exitQ_normal, ↓exitQ_ret, ↓exitQ_exit, saA_self, saO_self, if_pos, if_neg, wrapI, get_concat, set_concat, Int.toNat_natCast, Int.toNat_zero, List.nil_append, Nat.mul_one, decide_eq_true, decide_eq_false, Int.reduceLE, Int.reduceLT, Int.reduceNeg, Bool.false_or, Bool.true_or, Bool.or_false, Bool.or_true, wrapU, Int.reduceAdd, Int.reduceSub, Int.reduceMul]
    exact hk

theorem dacc_run {G : List (Nat × AFun X)} {m : Mem X} (e : Acc) : Fn G docs_Access [.agg (accC e)] m (fun v m' => v = .agg (accC e) ∧ m' = m ++ [.cells 4 false (accC e), .cells 4 false (accC e)]) := by
  refine Fn_of rfl ?_
  simp (disch := first | assumption | omega | (simp only [List.length_cons, List.length_nil, List.length_set, List.length_append] <;> omega) | (simp only [get_mid, get_mid0, List.cons_append, List.append_assoc, List.getElem?_cons_zero, List.getElem?_cons_succ])) only [docs_Access, ek, ↓evW, ↓evQ, evB, evS, evL, List.map, AV.cells, List.all, AV.one, Bool.and_true, Bool.true_and, if_true, ↓thenQ_normal, ↓thenQ_exit, ↓thenQ_ret, ↓blockQ_normal, ↓blockQ_ret, ↓blockQ_exit, ↓CW_true, ↓CW_false, CW_true, CW_false, condT, condF, RQ_some, tupA_one, tupA_two, tupA_nil, Nat.reduceSub, Nat.reduceAdd, Nat.reduceMul, Nat.zero_add, Nat.add_zero, Nat.reduceLeDiff, Nat.reduceEqDiff, eqV, eqAll, fillA, and_self, and_true, true_and, Nat.le_refl, Bool.not_true, Bool.not_false, Bool.false_xor, Bool.true_xor, cond_true, cond_false, List.replicate, if_false, reduceIte, resAll, resA, ne_eq, decide_not, decide_true, decide_false, Int.reduceEq, Bool.not_true, Bool.not_false, not_true_eq_false, not_false_eq_true, cond_bool, cond_int, beq_self_eq_true, Int.reduceBEq, Bool.and_self, Bool.and_false, Bool.false_and, Bool.xor_false, Bool.xor_true, loadN_ldC, ldC_none, ldC_somes, stC_aggs, splice, storeN_stC, stC_int, stC_bool, stC_ptr, stC_nilp, stC_sl, stC_nils, getC_gcO, gcO_cells, W_draw_eq, ↓W_scope, ev_clear, evT, evF, evX, evM, ↓exitQ_normal, ↓exitQ_ret, ↓exitQ_exit, saA_self, saO_self, if_pos, if_neg, wrapI, get_concat, set_concat, Int.toNat_natCast, Int.toNat_zero, List.nil_append, Nat.mul_one, decide_eq_true, decide_eq_false, Int.reduceLE, Int.reduceLT, Int.reduceNeg, Bool.false_or, Bool.true_or, Bool.or_false, Bool.or_true, wrapU, Int.reduceAdd, Int.reduceSub, Int.reduceMul, List.append_assoc, List.length_append, get_mid, get_mid0, set_mid, set_mid0, accC]

theorem rows_setC {α : Type} {f : α → List AV} {sz : Nat} (hf : ∀ x, (f x).length = sz) {o : Nat} {y : AV} (ho : o < sz) : ∀ {ws : List α} {i : Nat} {x x' : α}, ws[i]? = some x → (f x).set o y = f x' → (ws.flatMap f).set (i * sz + o) y = (ws.set i x').flatMap f
  | [], i, x, x', h, _ => by simp at h
  | w :: ws, 0, x, x', h, he => by
    simp only [List.getElem?_cons_zero, Option.some.injEq] at h; subst h
    rw [List.flatMap_cons, Nat.zero_mul, Nat.zero_add, List.set_append_left _ _ (by rw [hf]; exact ho), he, List.set_cons_zero, List.flatMap_cons]
  | w :: ws, i + 1, x, x', h, he => by
    simp only [List.getElem?_cons_succ] at h
    rw [List.flatMap_cons, List.set_append_right _ _ (by rw [hf, Nat.succ_mul]; omega), List.set_cons_succ, List.flatMap_cons, ← rows_setC hf ho h he, hf]
    congr 2
    rw [Nat.succ_mul]; omega

def SlI (M : Mem X) (es : List Acc) (l r : AV) (wr : Bool) (k : Nat) (e : List AV) (m : Mem X) : Prop := ∃ (i : Nat) (es' : List Acc) (x4 x5 x6 : AV),
  e = [l, r, .bool false, .int .i64 i, x4, x5, x6] ∧ k = es.length - i ∧ i ≤ es.length ∧ KeepB (slq l) M m ∧ SA m true es' l ∧ es'.length = es.length ∧ (∀ j, i ≤ j → es'[j]? = es[j]?) ∧ SA m wr es r ∧ (es = [] → m = M)
set_option maxHeartbeats 4000000 in
theorem samelog_run {M : Mem X} {wr : Bool} {es : List Acc} {l r : AV} (hl : SA M true es l) (hr : SA M wr es r) (ho : Off (slq l) r) (hx : es.length ≤ 65536) :
    Fn [(38, c_docs_Access)] docs_SameLog [l, r] M (fun v m' => v = .bool true ∧ KeepB (slq l) M m' ∧ (es = [] → m' = M)) := by
  have a38 : assoc [(38, c_docs_Access (X := X))] 38 = some c_docs_Access := rfl
  generalize [(38, c_docs_Access (X := X))] = G at a38
  have h1 := hl.len
  have h2 := hr.len
  refine Fn_of rfl ?_
  simp (disch := first | assumption | omega | (simp only [List.length_cons, List.length_nil, List.length_set, List.length_append] <;> omega) | (simp only [get_mid, get_mid0, List.cons_append, List.append_assoc, List.getElem?_cons_zero, List.getElem?_cons_succ])) only [docs_SameLog, ek, ↓evW, ↓evQ, evB, evS, evL, List.map, AV.cells, List.all, AV.one, Bool.and_true, Bool.true_and, if_true, ↓thenQ_normal, ↓thenQ_exit, ↓thenQ_ret, ↓blockQ_normal, ↓blockQ_ret, ↓blockQ_exit, ↓CW_true, ↓CW_false, CW_true, CW_false, condT, condF, RQ_some, tupA_one, tupA_two, tupA_nil, Nat.reduceSub, Nat.reduceAdd, Nat.reduceMul, Nat.zero_add, Nat.add_zero, Nat.reduceLeDiff, Nat.reduceEqDiff, eqV, eqAll, fillA, and_self, and_true, true_and, Nat.le_refl, Bool.not_true, Bool.not_false, Bool.false_xor, Bool.true_xor, cond_true, cond_false, List.replicate, if_false, reduceIte, resAll, resA, ne_eq, decide_not, decide_true, decide_false, Int.reduceEq, Bool.not_true, Bool.not_false, not_true_eq_false, not_false_eq_true, cond_bool, cond_int, beq_self_eq_true, Int.reduceBEq, Bool.and_self, Bool.and_false, Bool.false_and, Bool.xor_false, Bool.xor_true, loadN_ldC, ldC_none, ldC_somes, stC_aggs, splice, storeN_stC, stC_int, stC_bool, stC_ptr, stC_nilp, stC_sl, stC_nils, getC_gcO, gcO_cells, W_draw_eq, ↓W_scope, ev_clear, evT, evF, evX, evM, ↓exitQ_normal, ↓exitQ_ret, ↓exitQ_exit, saA_self, saO_self, if_pos, if_neg, wrapI, get_concat, set_concat, Int.toNat_natCast, Int.toNat_zero, List.nil_append, Nat.mul_one, decide_eq_true, decide_eq_false, Int.reduceLE, Int.reduceLT, Int.reduceNeg, Bool.false_or, Bool.true_or, Bool.or_false, Bool.or_true, wrapU, Int.reduceAdd, Int.reduceSub, Int.reduceMul, ev_len, h1, h2]
  refine W_loop (SlI M es l r wr) es.length (by simp only [FUEL]; omega) ⟨0, es, _, _, _, rfl, rfl, by omega, KeepB.refl _, hl, rfl, fun _ _ => rfl, hr, fun _ => rfl⟩ ?_
  rintro k e m' ⟨i, es', x4, x5, x6, rfl, rfl, hi, hk, sl, hxl, hxe, sr, hem⟩
  simp (disch := first | assumption | omega | (simp only [List.length_cons, List.length_nil, List.length_set, List.length_append] <;> omega) | (simp only [get_mid, get_mid0, List.cons_append, List.append_assoc, List.getElem?_cons_zero, List.getElem?_cons_succ])) only [ek, ↓evW, ↓evQ, evB, evS, evL, List.map, AV.cells, List.all, AV.one, Bool.and_true, Bool.true_and, if_true, ↓thenQ_normal, ↓thenQ_exit, ↓thenQ_ret, ↓blockQ_normal, ↓blockQ_ret, ↓blockQ_exit, ↓CW_true, ↓CW_false, CW_true, CW_false, condT, condF, RQ_some, tupA_one, tupA_two, tupA_nil, Nat.reduceSub, Nat.reduceAdd, Nat.reduceMul, Nat.zero_add, Nat.add_zero, Nat.reduceLeDiff, Nat.reduceEqDiff, eqV, eqAll, fillA, and_self, and_true, true_and, Nat.le_refl, Bool.not_true, Bool.not_false, Bool.false_xor, Bool.true_xor, cond_true, cond_false, List.replicate, if_false, reduceIte, resAll, resA, ne_eq, decide_not, decide_true, decide_false, Int.reduceEq, Bool.not_true, Bool.not_false, not_true_eq_false, not_false_eq_true, cond_bool, cond_int, beq_self_eq_true, Int.reduceBEq, Bool.and_self, Bool.and_false, Bool.false_and, Bool.xor_false, Bool.xor_true, loadN_ldC, ldC_none, ldC_somes, stC_aggs, splice, storeN_stC, stC_int, stC_bool, stC_ptr, stC_nilp, stC_sl, stC_nils, getC_gcO, gcO_cells, W_draw_eq, ↓W_scope, ev_clear, evT, evF, evX, evM, ↓exitQ_normal, ↓exitQ_ret, ↓exitQ_exit, saA_self, saO_self, if_pos, if_neg, wrapI, get_concat, set_concat, Int.toNat_natCast, Int.toNat_zero, List.nil_append, Nat.mul_one, decide_eq_true, decide_eq_false, Int.reduceLE, Int.reduceLT, Int.reduceNeg, Bool.false_or, Bool.true_or, Bool.or_false, Bool.or_true, wrapU, Int.reduceAdd, Int.reduceSub, Int.reduceMul, ev_len, h1]
  refine CW_of (fun h => ?_) (fun h => ?_)
  · simp only [decide_eq_true_eq] at h
    obtain ⟨x, hxi⟩ : ∃ x, es[i]? = some x := ⟨_, List.getElem?_eq_getElem (by omega)⟩
    have hxi' : es'[i]? = some x := by rw [hxe i (Nat.le_refl _)]; exact hxi
    obtain ⟨q, o, cap, ro, L, rfl, b2, b3, b4, b5, b6, _⟩ := sl.get hxi'
    have := b3 rfl; subst this
    obtain ⟨q2, o2, cap2, ro2, L2, rfl, c2, c3, c4, c5, c6, _⟩ := sr.get hxi
    have hne : q2 ≠ q := ho _ _ _ _ rfl (by omega)
    have hacc := Fn_eq (dacc_run (G := []) (m := m') x)
    have hb2 : q < m'.length := (List.getElem?_eq_some_iff.1 b2).1
    have hc2 : q2 < m'.length := (List.getElem?_eq_some_iff.1 c2).1
    have heq : eqAll [true, true, true, true] (accC x) (accC x) = some true := by simp [accC, eqV, eqAll]
    simp (disch := first | assumption | omega | (simp only [List.length_cons, List.length_nil, List.length_set, List.length_append] <;> omega) | (simp only [get_mid, get_mid0, List.cons_append, List.append_assoc, List.getElem?_cons_zero, List.getElem?_cons_succ])) only [ek, ↓evW, ↓evQ, evB, evS, evL, List.map, AV.cells, List.all, AV.one, Bool.and_true, Bool.true_and, if_true, ↓thenQ_normal, ↓thenQ_exit, ↓thenQ_ret, ↓blockQ_normal, ↓blockQ_ret, ↓blockQ_exit, ↓CW_true, ↓CW_false, CW_true, CW_false, condT, condF, RQ_some, tupA_one, tupA_two, tupA_nil, Nat.reduceSub, Nat.reduceAdd, Nat.reduceMul, Nat.zero_add, Nat.add_zero, Nat.reduceLeDiff, Nat.reduceEqDiff, eqV, eqAll, fillA, and_self, and_true, true_and, Nat.le_refl, Bool.not_true, Bool.not_false, Bool.false_xor, Bool.true_xor, cond_true, cond_false, List.replicate, if_false, reduceIte, resAll, resA, ne_eq, decide_not, decide_true, decide_false, Int.reduceEq, Bool.not_true, Bool.not_false, not_true_eq_false, not_false_eq_true, cond_bool, cond_int, beq_self_eq_true, Int.reduceBEq, Bool.and_self, Bool.and_false, Bool.false_and, Bool.xor_false, Bool.xor_true, loadN_ldC, ldC_none, ldC_somes, stC_aggs, splice, storeN_stC, stC_int, stC_bool, stC_ptr, stC_nilp, stC_sl, stC_nils, getC_gcO, gcO_cells, W_draw_eq, ↓W_scope, ev_clear, evT, evF, evX, evM, ↓exitQ_normal, ↓exitQ_ret, ↓exitQ_exit, saA_self, saO_self, if_pos, if_neg, wrapI, get_concat, set_concat, Int.toNat_natCast, Int.toNat_zero, List.nil_append, Nat.mul_one, decide_eq_true, decide_eq_false, Int.reduceLE, Int.reduceLT, Int.reduceNeg, Bool.false_or, Bool.true_or, Bool.or_false, Bool.or_true, wrapU, Int.reduceAdd, Int.reduceSub, Int.reduceMul, List.append_assoc, List.length_append, get_mid, get_mid0, set_mid, set_mid0, List.length_set, List.length_cons, List.length_nil, List.cons_append, List.getElem?_append_left, List.set_append_left, get_at, get_at0, set_at, set_at0, List.getElem?_set_self, List.getElem?_set_ne, b2, b6, c2, c6, a38, c_docs_Access, hacc, heq]
    refine ⟨_, by omega, i + 1, es'.set i { x with at' := -77 }, _, _, _, rfl, rfl, by omega, (hk.trans (KeepB.at _ _)).trans (KeepB.app _ _), ?_, by simp [hxl], fun j hj => by rw [List.getElem?_set_ne (by omega)]; exact hxe j (by omega), ((KeepB.at _ _).off ho sr).keep (Keep.app _ _), fun h0 => by rw [h0] at h; simp at h; omega⟩
    refine Sl.keep ?_ (Keep.app _ _)
    obtain ⟨hlen, hsl⟩ := sl
    rcases hsl with ⟨h, _⟩ | ⟨q', o', cap', h, h5⟩
    · cases h
    · injection h with e1 e2 e3 e4; subst e1; subst e2; subst e4
      obtain ⟨ro, L', d1, d2, d3, d4⟩ := h5 (by omega)
      rw [b2] at d1; injection d1 with d1; injection d1 with _ _ d1; subst d1
      refine ⟨by rw [accs_len], .inr ⟨q, o, cap, by rw [List.length_set], fun _ => ⟨false, _, List.getElem?_set_self hb2, ?_, by simpa using d3, fun _ => rfl⟩⟩⟩
      rw [List.length_set, List.drop_set, if_neg (by omega), List.take_set, d2, show o + i * 4 + 1 - o = i * 4 + 1 by omega]
      exact rows_setC (f := accC) (fun _ => rfl) (by omega) hxi' rfl
  · simp only [decide_eq_false_iff_not] at h
    simp (disch := first | assumption | omega | (simp only [List.length_cons, List.length_nil, List.length_set, List.length_append] <;> omega) | (simp only [get_mid, get_mid0, List.cons_append, List.append_assoc, List.getElem?_cons_zero, List.getElem?_cons_succ])) only [ek, ↓evW, ↓evQ, evB, evS, evL, List.map, AV.cells, List.all, AV.one, Bool.and_true, Bool.true_and, if_true, ↓thenQ_normal, ↓thenQ_exit, ↓thenQ_ret, ↓blockQ_normal, ↓blockQ_ret, ↓blockQ_exit, ↓CW_true, ↓CW_false, CW_true, CW_false, condT, condF, RQ_some, tupA_one, tupA_two, tupA_nil, Nat.reduceSub, Nat.reduceAdd, Nat.reduceMul, Nat.zero_add, Nat.add_zero, Nat.reduceLeDiff, Nat.reduceEqDiff, eqV, eqAll, fillA, and_self, and_true, true_and, Nat.le_refl, Bool.not_true, Bool.not_false, Bool.false_xor, Bool.true_xor, cond_true, cond_false, List.replicate, if_false, reduceIte, resAll, resA, ne_eq, decide_not, decide_true, decide_false, Int.reduceEq, Bool.not_true, Bool.not_false, not_true_eq_false, not_false_eq_true, cond_bool, cond_int, beq_self_eq_true, Int.reduceBEq, Bool.and_self, Bool.and_false, Bool.false_and, Bool.xor_false, Bool.xor_true, loadN_ldC, ldC_none, ldC_somes, stC_aggs, splice, storeN_stC, stC_int, stC_bool, stC_ptr, stC_nilp, stC_sl, stC_nils, getC_gcO, gcO_cells, W_draw_eq, ↓W_scope, ev_clear, evT, evF, evX, evM, ↓exitQ_normal, ↓exitQ_ret, ↓exitQ_exit, saA_self, saO_self, if_pos, if_neg, wrapI, get_concat, set_concat, Int.toNat_natCast, Int.toNat_zero, List.nil_append, Nat.mul_one, decide_eq_true, decide_eq_false, Int.reduceLE, Int.reduceLT, Int.reduceNeg, Bool.false_or, Bool.true_or, Bool.or_false, Bool.or_true, wrapU, Int.reduceAdd, Int.reduceSub, Int.reduceMul]
    exact ⟨hk, hem⟩
end

theorem sl_off {X : Type} {m : Mem X} {wr : Bool} {sz n : Nat} {l : List AV} {v : AV} (h : Sl m wr sz n l v) {q : Nat} (hq : m.length ≤ q) : Off q v := by
  intro q' o' n' c' hv h0
  rcases h.2 with ⟨h1, _⟩ | ⟨q2, o2, c2, h1, h2⟩
  · rw [h1] at hv; cases hv
  · rw [h1] at hv; injection hv with e1 e2 e3 e4; subst e1; subst e3
    obtain ⟨ro, L, h3, _⟩ := h2 h0
    have := (List.getElem?_eq_some_iff.1 h3).1
    omega

def Gsb : List (Nat × AFun Ob) := [(34, memF fun s rest => (lenAsk s rest).map fun v => (v, s)), (46, memF fun s rest => (opsAsk s rest).map fun v => (v, s)), (47, memNF allS), (57, c_ref06_All), (58, c_docs_SameCells), (43, memNF logS), (59, c_ref06_Log), (60, c_docs_SameLog)]

theorem len_of {M : MM} {j : Nat} {s : MemSt} (hM : M[j]? = some (.abs (.mem s))) : memF (fun s rest => (lenAsk s rest).map fun v => (v, s)) [.ptr j 0] M = some (.int .i64 s.cells.length, M) := by
  simp only [memF, hM, lenAsk, Option.map_some, set_same hM]
theorem ops_of {M : MM} {j : Nat} {s : MemSt} (hM : M[j]? = some (.abs (.mem s))) : memF (fun s rest => (opsAsk s rest).map fun v => (v, s)) [.ptr j 0] M = some (.int .u64 s.ops, M) := by
  simp only [memF, hM, opsAsk, Option.map_some, set_same hM]
theorem all_of {M : MM} {j : Nat} {s : MemSt} (hM : M[j]? = some (.abs (.mem s))) (hn : s.cells.length ≤ 65536) : ∃ l, memNF allS [.ptr j 0] M = some (l, M ++ [.cells 1 false (uC s.cells)]) ∧ SU (M ++ [.cells 1 false (uC s.cells)]) true s.cells l ∧ slq l = M.length := by
  simp only [memNF, hM, allS, if_pos hn, set_same hM]
  refine ⟨_, rfl, ?_⟩
  by_cases h : s.cells = []
  · rw [if_pos h]
    exact ⟨⟨by rw [uC_len]; omega, .inr ⟨_, _, _, by rw [h]; rfl, fun h0 => by rw [h] at h0; cases h0⟩⟩, rfl⟩
  · rw [if_neg h]
    exact ⟨⟨by rw [uC_len]; omega, .inr ⟨_, _, _, rfl, fun h0 => ⟨false, _, by rw [get_concat], by rw [List.drop_zero, Nat.mul_one, ← uC_len, List.take_length], by rw [uC_len]; omega, fun _ => rfl⟩⟩⟩, rfl⟩
theorem log_of {M : MM} {j : Nat} {s : MemSt} (hM : M[j]? = some (.abs (.mem s))) (hn : s.log.length ≤ 65536) : ∃ l c, memNF logS [.ptr j 0] M = some (l, M ++ [c]) ∧ SA (M ++ [c]) true s.log l ∧ Fr M.length l ∧ (s.log ≠ [] → slq l = M.length) ∧ Nc l := by
  simp only [memNF, hM, logS, if_pos hn, set_same hM]
  refine ⟨_, _, rfl, ?_⟩
  by_cases h : s.log = []
  · rw [if_pos h]
    exact ⟨⟨by rw [accs_len], .inl ⟨if_pos h, by rw [h]; rfl⟩⟩, .inl (if_pos h), fun h' => absurd h h', .inl (if_pos h)⟩
  · rw [if_neg h, if_neg h]
    exact ⟨⟨by rw [accs_len], .inr ⟨_, _, _, rfl, fun h0 => ⟨false, _, by rw [get_concat], by rw [List.drop_zero, ← accs_len, List.take_length], by rw [accs_len]; omega, fun _ => rfl⟩⟩⟩, .inr ⟨_, _, _, _, rfl, Nat.le_refl _⟩, fun _ => rfl, .inr ⟨M.length, 0, s.log.length - 1, by
      have : s.log.length ≠ 0 := fun h' => h (List.length_eq_zero_iff.1 h')
      rw [Nat.sub_add_cancel (by omega)]⟩⟩

set_option maxHeartbeats 8000000 in
theorem samebook_run {m : MM} {wr : Bool} {j n : Nat} {es : List Acc} {v : AV} {s : MemSt} (hj : m[j]? = some (.abs (.mem s))) (hr : Rel n es s) (hs : SA m wr es v) (hnc : Nc v) (hl : es.length ≤ 1000) (hn : n ≤ 65536) :
    Fn Gsb docs_SameBook [.ptr j 0, .agg (bookC n v)] m (fun r m' => r = .bool true ∧ Keep m m') := by
  have a34 : assoc Gsb 34 = some (memF fun s rest => (lenAsk s rest).map fun v => (v, s)) := rfl
  have a46 : assoc Gsb 46 = some (memF fun s rest => (opsAsk s rest).map fun v => (v, s)) := rfl
  have a47 : assoc Gsb 47 = some (memNF allS) := rfl
  have a57 : assoc Gsb 57 = some c_ref06_All := rfl
  have a58 : assoc Gsb 58 = some c_docs_SameCells := rfl
  have a43 : assoc Gsb 43 = some (memNF logS) := rfl
  have a59 : assoc Gsb 59 = some c_ref06_Log := rfl
  have a60 : assoc Gsb 60 = some c_docs_SameLog := rfl
  generalize Gsb = G at a34 a46 a47 a57 a58 a43 a59 a60 ⊢
  have hone := hs.one
  simp only [AV.one] at hone
  have hlen := hs.len
  have lj : j < m.length := (List.getElem?_eq_some_iff.1 hj).1
  have hj1 : (m ++ [Chunk.cells 2 false [.int .i64 (n : Int), v]])[j]? = some (.abs (.mem s)) := by rw [List.getElem?_append_left lj]; exact hj
  have f34 := len_of hj1
  have f46 := ops_of hj1
  have hcl : s.cells.length = n := by rw [hr.cells, cellsOf_len]
  have hops := hr.ops
  obtain ⟨l1, f47, s47, q47⟩ := all_of hj1 (by omega)
  have hs2 := hs.keep (Keep.app m ([Chunk.cells 2 false [.int .i64 (n : Int), v]] ++ [.cells 1 false (uC s.cells)]))
  rw [← List.append_assoc] at hs2
  have f57 := Fn_eq (refall_run (G := []) hs2 hr.ok hl hn)
  generalize hC : Chunk.cells 1 false (uC s.cells) = C at f47 s47 hs2 f57
  have g1 : (m ++ [Chunk.cells 2 false [AV.int .i64 (n : Int), v]])[m.length]? = some (Chunk.cells 2 false [AV.int .i64 (n : Int), v]) := get_concat
  have g2 : (m ++ [Chunk.cells 2 false [AV.int .i64 (n : Int), v]] ++ [C])[m.length]? = some (Chunk.cells 2 false [AV.int .i64 (n : Int), v]) := by rw [List.getElem?_append_left (by simp)]; exact g1
  have g3 : (m ++ [Chunk.cells 2 false [AV.int .i64 (n : Int), v]] ++ [C] ++ [Chunk.cells 2 false (bookC n v), .cells 1 false (uC (cellsOf n es))])[m.length]? = some (Chunk.cells 2 false [AV.int .i64 (n : Int), v]) := by rw [List.getElem?_append_left (by simp)]; exact g2
  have hl2 : (m ++ [Chunk.cells 2 false [AV.int .i64 (n : Int), v]] ++ [C]).length = m.length + 2 := by simp
  have s57 : SU (m ++ [Chunk.cells 2 false [AV.int .i64 (n : Int), v]] ++ [C] ++ [Chunk.cells 2 false (bookC n v), .cells 1 false (uC (cellsOf n es))]) true s.cells (.sl (m.length + 2 + 1) 0 n (some n)) := by
    refine ⟨by rw [uC_len]; omega, .inr ⟨_, _, _, by rw [hcl], fun _ => ⟨false, _, ?_, by rw [List.drop_zero, Nat.mul_one, ← uC_len, List.take_length], by rw [uC_len]; omega, fun _ => rfl⟩⟩⟩
    rw [← hl2, get_mid, hr.cells]; rfl
  have hoff : Off (slq l1) (.sl (m.length + 2 + 1) 0 n (some n)) := by
    intro q' o' n' c' h h0
    injection h with e1; subst e1
    rw [q47]; simp
  rw [hl2] at f57
  simp only [bookC] at f57 g3 s57
  refine Fn_of rfl ?_
  simp (disch := first | assumption | omega | (simp only [List.length_cons, List.length_nil, List.length_set, List.length_append] <;> omega) | (simp only [get_mid, get_mid0, List.cons_append, List.append_assoc, List.getElem?_cons_zero, List.getElem?_cons_succ])) only [docs_SameBook, ek, ↓evW, ↓evQ, evB, evS, evL, List.map, AV.cells, List.all, AV.one, Bool.and_true, Bool.true_and, if_true, ↓thenQ_normal, ↓thenQ_exit, ↓thenQ_ret, ↓blockQ_normal, ↓blockQ_ret, ↓blockQ_exit, ↓CW_true, ↓CW_false, CW_true, CW_false, condT, condF, RQ_some, tupA_one, tupA_two, tupA_nil, Nat.reduceSub, Nat.reduceAdd, Nat.reduceMul, Nat.zero_add, Nat.add_zero, Nat.reduceLeDiff, Nat.reduceEqDiff, eqV, eqAll, fillA, and_self, and_true, true_and, Nat.le_refl, Bool.not_true, Bool.not_false, Bool.false_xor, Bool.true_xor, cond_true, cond_false, List.replicate, if_false, reduceIte, resAll, resA, ne_eq, decide_not, decide_true, decide_false, Int.reduceEq, Bool.not_true, Bool.not_false, not_true_eq_false, not_false_eq_true, cond_bool, cond_int, beq_self_eq_true, Int.reduceBEq, Bool.and_self, Bool.and_false, Bool.false_and, Bool.xor_false, Bool.xor_true, loadN_ldC, ldC_none, ldC_somes, stC_aggs, splice, storeN_stC, stC_int, stC_bool, stC_ptr, stC_nilp, stC_sl, stC_nils, getC_gcO, gcO_cells, W_draw_eq, ↓W_scope, ev_clear, evT, evF, evX, evM, ↓exitQ_normal, ↓exitQ_ret, ↓exitQ_exit, saA_self, saO_self, if_pos, if_neg, wrapI, get_concat, set_concat, Int.toNat_natCast, Int.toNat_zero, List.nil_append, Nat.mul_one, decide_eq_true, decide_eq_false, Int.reduceLE, Int.reduceLT, Int.reduceNeg, Bool.false_or, Bool.true_or, Bool.or_false, Bool.or_true, wrapU, Int.reduceAdd, Int.reduceSub, Int.reduceMul, bookC, hone, ev_len, hlen, g1, a34, f34, a46, f46, hcl, hops, a47, f47, g2, a57, c_ref06_All, f57, a58, c_docs_SameCells]
  refine OKT_fn (samecells_run (s47.keep (Keep.app _ _)) s57 hoff (by omega)) ?_
  rintro _ M4 ⟨rfl, k4⟩
  have hl4 : m.length + 4 ≤ M4.length := by have := k4.1; simpa using this
  have hK4 : Keep m M4 := by
    refine ⟨by omega, fun i hi => ?_⟩
    rw [k4.2 i (by simp; omega) (by rw [q47]; simp; omega), List.getElem?_append_left (by simp; omega), List.getElem?_append_left (by simp; omega), List.getElem?_append_left hi]
  have hj4 := hK4.get hj
  have g4 : M4[m.length]? = some (Chunk.cells 2 false [AV.int .i64 (n : Int), v]) := k4.get g3 (by rw [q47]; simp)
  obtain ⟨l2, c2, f43, s43, fr43, q43, _⟩ := log_of hj4 (by have := hr.logLen; omega)
  have g5 : (M4 ++ [c2])[m.length]? = some (Chunk.cells 2 false [AV.int .i64 (n : Int), v]) := by rw [List.getElem?_append_left (by omega)]; exact g4
  obtain ⟨r5, s5, off5, f59⟩ := reflog_run (G := []) (hs.keep (hK4.trans (Keep.app M4 [c2]))) hnc hl (n := n)
  have f59 := Fn_eq f59
  simp only [bookC] at f59
  rw [← hr.log] at s5
  have hoff2 : Off (slq l2) r5 := by
    intro q' o' n' c' h h0
    have h1 := s5.len
    rw [h] at h1
    by_cases he : s.log = []
    · rw [he] at h1; simp [lenA] at h1; omega
    · rw [q43 he]
      exact off5 M4.length (sl_off hs (by omega)) q' o' n' c' h h0
  have hlog := hr.logLen
  have hS := samelog_run (s43.keep (Keep.app _ [Chunk.cells 2 false [AV.int .i64 (n : Int), v]])) (s5.keep (Keep.app _ [Chunk.cells 2 false [AV.int .i64 (n : Int), v]])) hoff2 (by omega)
  simp (disch := first | assumption | omega | (simp only [List.length_cons, List.length_nil, List.length_set, List.length_append] <;> omega) | (simp only [get_mid, get_mid0, List.cons_append, List.append_assoc, List.getElem?_cons_zero, List.getElem?_cons_succ])) only [ek, ↓evW, ↓evQ, evB, evS, evL, List.map, AV.cells, List.all, AV.one, Bool.and_true, Bool.true_and, if_true, ↓thenQ_normal, ↓thenQ_exit, ↓thenQ_ret, ↓blockQ_normal, ↓blockQ_ret, ↓blockQ_exit, ↓CW_true, ↓CW_false, CW_true, CW_false, condT, condF, RQ_some, tupA_one, tupA_two, tupA_nil, Nat.reduceSub, Nat.reduceAdd, Nat.reduceMul, Nat.zero_add, Nat.add_zero, Nat.reduceLeDiff, Nat.reduceEqDiff, eqV, eqAll, fillA, and_self, and_true, true_and, Nat.le_refl, Bool.not_true, Bool.not_false, Bool.false_xor, Bool.true_xor, cond_true, cond_false, List.replicate, if_false, reduceIte, resAll, resA, ne_eq, decide_not, decide_true, decide_false, Int.reduceEq, Bool.not_true, Bool.not_false, not_true_eq_false, not_false_eq_true, cond_bool, cond_int, beq_self_eq_true, Int.reduceBEq, Bool.and_self, Bool.and_false, Bool.false_and, Bool.xor_false, Bool.xor_true, loadN_ldC, ldC_none, ldC_somes, stC_aggs, splice, storeN_stC, stC_int, stC_bool, stC_ptr, stC_nilp, stC_sl, stC_nils, getC_gcO, gcO_cells, W_draw_eq, ↓W_scope, ev_clear, evT, evF, evX, evM, ↓exitQ_normal, ↓exitQ_ret, ↓exitQ_exit, saA_self, saO_self, if_pos, if_neg, wrapI, get_concat, set_concat, Int.toNat_natCast, Int.toNat_zero, List.nil_append, Nat.mul_one, decide_eq_true, decide_eq_false, Int.reduceLE, Int.reduceLT, Int.reduceNeg, Bool.false_or, Bool.true_or, Bool.or_false, Bool.or_true, wrapU, Int.reduceAdd, Int.reduceSub, Int.reduceMul, hj4, g4, a43, f43, g5, a59, c_ref06_Log, f59, a60, c_docs_SameLog]
  refine OKT_fn hS ?_
  rintro _ M5 ⟨rfl, k5, e5⟩
  have hK5 : Keep m M5 := by
    by_cases h0 : s.log = []
    · rw [e5 h0]
      exact (hK4.trans (Keep.app _ _)).trans (Keep.app _ _)
    · refine ⟨by have := k5.1; simp at this; omega, fun i hi => ?_⟩
      rw [k5.2 i (by simp; omega) (by rw [q43 h0]; omega), List.getElem?_append_left (by simp; omega), List.getElem?_append_left (by omega)]
      exact hK4.2 i hi
  simp (disch := first | assumption | omega | (simp only [List.length_cons, List.length_nil, List.length_set, List.length_append] <;> omega) | (simp only [get_mid, get_mid0, List.cons_append, List.append_assoc, List.getElem?_cons_zero, List.getElem?_cons_succ])) only [ek, ↓evW, ↓evQ, evB, evS, evL, List.map, AV.cells, List.all, AV.one, Bool.and_true, Bool.true_and, if_true, ↓thenQ_normal, ↓thenQ_exit, ↓thenQ_ret, ↓blockQ_normal, ↓blockQ_ret, ↓blockQ_exit, ↓CW_true, ↓CW_false, CW_true, CW_false, condT, condF, RQ_some, tupA_one, tupA_two, tupA_nil, Nat.reduceSub, Nat.reduceAdd, Nat.reduceMul, Nat.zero_add, Nat.add_zero, Nat.reduceLeDiff, Nat.reduceEqDiff, eqV, eqAll, fillA, and_self, and_true, true_and, Nat.le_refl, Bool.not_true, Bool.not_false, Bool.false_xor, Bool.true_xor, cond_true, cond_false, List.replicate, if_false, reduceIte, resAll, resA, ne_eq, decide_not, decide_true, decide_false, Int.reduceEq, Bool.not_true, Bool.not_false, not_true_eq_false, not_false_eq_true, cond_bool, cond_int, beq_self_eq_true, Int.reduceBEq, Bool.and_self, Bool.and_false, Bool.false_and, Bool.xor_false, Bool.xor_true, loadN_ldC, ldC_none, ldC_somes, stC_aggs, splice, storeN_stC, stC_int, stC_bool, stC_ptr, stC_nilp, stC_sl, stC_nils, getC_gcO, gcO_cells, W_draw_eq, ↓W_scope, ev_clear, evT, evF, evX, evM, ↓exitQ_normal, ↓exitQ_ret, ↓exitQ_exit, saA_self, saO_self, if_pos, if_neg, wrapI, get_concat, set_concat, Int.toNat_natCast, Int.toNat_zero, List.nil_append, Nat.mul_one, decide_eq_true, decide_eq_false, Int.reduceLE, Int.reduceLT, Int.reduceNeg, Bool.false_or, Bool.true_or, Bool.or_false, Bool.or_true, wrapU, Int.reduceAdd, Int.reduceSub, Int.reduceMul, g1, g2, g4]
  exact hK5
end Go.Am.F06
