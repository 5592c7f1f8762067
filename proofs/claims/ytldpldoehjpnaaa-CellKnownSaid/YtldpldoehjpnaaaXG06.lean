/- Redo, on one abstract chunk. -/
import Derived.Test.YtldpldoehjpnaaaXE06
set_option linter.unusedSimpArgs false
set_option linter.unusedVariables false
namespace Go.Am.F06

/-- A memory unfolded at i above m. -/
def Cc (m : MM) (i : Nat) (s : MemSt) (M : MM) : Prop := ∃ lv L, M = m.set i (.cells 8 false (rootL s lv (cvA i m.length s))) ++ L ∧ (∀ R, LogAt m.length (m.set i R ++ L) lv s) ∧ L[0]? = some (.cells 1 false (uC s.cells))
theorem logAt_app {m L : MM} {i : Nat} {s : MemSt} {lv : AV} (h : ∀ R, LogAt m.length (m.set i R ++ L) lv s) (K : MM) : ∀ R, LogAt m.length (m.set i R ++ (L ++ K)) lv s := by
  intro R
  rcases h R with h | ⟨k2, h0, h1, h2, h3⟩
  · exact .inl h
  · exact .inr ⟨k2, h0, h1, h2, by rw [← List.append_assoc, List.getElem?_append_left (List.getElem?_eq_some_iff.1 h3).1]; exact h3⟩
theorem get0_app {α : Type} {L K : List α} {c : α} (h : L[0]? = some c) : (L ++ K)[0]? = some c := by
  rw [List.getElem?_append_left (List.getElem?_eq_some_iff.1 h).1]; exact h
theorem Cc.app {m M : MM} {i : Nat} {s : MemSt} (h : Cc m i s M) (K : MM) : Cc m i s (M ++ K) := by
  obtain ⟨lv, L, rfl, h1, h2⟩ := h
  exact ⟨lv, L ++ K, by rw [List.append_assoc], logAt_app h1 K, get0_app h2⟩

set_option maxHeartbeats 4000000 in
theorem load_cc {m M : MM} {i : Nat} (hi : i < m.length) {s s' : MemSt} (h : Cc m i s M) {a o : Int} {ok : Bool} (hacc : accS 1 (fun w => (w, true)) s a = some (o, ok, s')) : ∃ M', c_cell_Mem_Load [.ptr i 0, .int .i64 a] M = some (.int .u64 o, M') ∧ Cc m i s' M' := by
  obtain ⟨lv, L, rfl, h1, h2⟩ := h
  have hF : ∀ (w : Int) (M : MM), c_cell_Mem_Load_1 (.int .u64 w :: []) M = some (.tup [.int .u64 w, .bool true], M) := fun w M => Fn_eq (Fn_of rfl (by simp (disch := first | assumption | omega | (simp only [List.length_cons, List.length_nil, List.length_set, List.length_append] <;> omega) | (simp only [get_mid, get_mid0, List.cons_append, List.append_assoc, List.getElem?_cons_zero, List.getElem?_cons_succ])) only [cell_Mem_Load_1, ek, ↓evW, ↓evQ, evB, evS, evL, List.map, AV.cells, List.all, AV.one, Bool.and_true, Bool.true_and, if_true, ↓thenQ_normal, ↓thenQ_exit, ↓thenQ_ret, ↓blockQ_normal, ↓blockQ_ret, ↓blockQ_exit, ↓CW_true, ↓CW_false, CW_true, CW_false, condT, condF, RQ_some, tupA_one, tupA_two, tupA_nil, Nat.reduceSub, Nat.reduceAdd, Nat.reduceMul, Nat.zero_add, Nat.add_zero, Nat.reduceLeDiff, Nat.reduceEqDiff, eqV, eqAll, fillA, and_self, and_true, true_and, Nat.le_refl, Bool.not_true, Bool.not_false, Bool.false_xor, Bool.true_xor, cond_true, cond_false, List.replicate, if_false, reduceIte, resAll, resA, ne_eq, decide_not, decide_true, decide_false, Int.reduceEq, Bool.not_true, Bool.not_false, not_true_eq_false, not_false_eq_true, cond_bool, cond_int, beq_self_eq_true, Int.reduceBEq, Bool.and_self, Bool.and_false, Bool.false_and, Bool.xor_false, Bool.xor_true, loadN_ldC, ldC_none, ldC_somes, stC_aggs, splice, storeN_stC, stC_int, stC_bool, stC_ptr, stC_nilp, stC_sl, stC_nils, getC_gcO, gcO_cells, W_draw_eq, ↓W_scope, ev_clear, evT, evF, evX, evM, ↓exitQ_normal, ↓exitQ_ret, ↓exitQ_exit, saA_self, saO_self, if_pos, if_neg, wrapI, get_concat, set_concat, Int.toNat_natCast, Int.toNat_zero, List.nil_append, Nat.mul_one, decide_eq_true, decide_eq_false, Int.reduceLE, Int.reduceLT, Int.reduceNeg, Bool.false_or, Bool.true_or, Bool.or_false, Bool.or_true, wrapU, Int.reduceAdd, Int.reduceSub, Int.reduceMul]))
  have hrun : Fn [(50, c_cell_Mem_access), (52, c_cell_Mem_Load_1)] cell_Mem_Load [.ptr i 0, .int .i64 a] (m.set i (.cells 8 false (rootL s lv (cvA i m.length s))) ++ L) (fun v M => v = .int .u64 o ∧ Cc m i s' M) := by
    refine Fn_of rfl ?_
    simp (disch := first | assumption | omega | (simp only [List.length_cons, List.length_nil, List.length_set, List.length_append] <;> omega) | (simp only [get_mid, get_mid0, List.cons_append, List.append_assoc, List.getElem?_cons_zero, List.getElem?_cons_succ])) only [cell_Mem_Load, ek, ↓evW, ↓evQ, evB, evS, evL, List.map, AV.cells, List.all, AV.one, Bool.and_true, Bool.true_and, if_true, ↓thenQ_normal, ↓thenQ_exit, ↓thenQ_ret, ↓blockQ_normal, ↓blockQ_ret, ↓blockQ_exit, ↓CW_true, ↓CW_false, CW_true, CW_false, condT, condF, RQ_some, tupA_one, tupA_two, tupA_nil, Nat.reduceSub, Nat.reduceAdd, Nat.reduceMul, Nat.zero_add, Nat.add_zero, Nat.reduceLeDiff, Nat.reduceEqDiff, eqV, eqAll, fillA, and_self, and_true, true_and, Nat.le_refl, Bool.not_true, Bool.not_false, Bool.false_xor, Bool.true_xor, cond_true, cond_false, List.replicate, if_false, reduceIte, resAll, resA, ne_eq, decide_not, decide_true, decide_false, Int.reduceEq, Bool.not_true, Bool.not_false, not_true_eq_false, not_false_eq_true, cond_bool, cond_int, beq_self_eq_true, Int.reduceBEq, Bool.and_self, Bool.and_false, Bool.false_and, Bool.xor_false, Bool.xor_true, loadN_ldC, ldC_none, ldC_somes, stC_aggs, splice, storeN_stC, stC_int, stC_bool, stC_ptr, stC_nilp, stC_sl, stC_nils, getC_gcO, gcO_cells, W_draw_eq, ↓W_scope, ev_clear, evT, evF, evX, evM, ↓exitQ_normal, ↓exitQ_ret, ↓exitQ_exit, saA_self, saO_self, if_pos, if_neg, wrapI, get_concat, set_concat, Int.toNat_natCast, Int.toNat_zero, List.nil_append, Nat.mul_one, decide_eq_true, decide_eq_false, Int.reduceLE, Int.reduceLT, Int.reduceNeg, Bool.false_or, Bool.true_or, Bool.or_false, Bool.or_true, wrapU, Int.reduceAdd, Int.reduceSub, Int.reduceMul]
    refine OK_fn (acc_run hi h1 h2 (F := c_cell_Mem_Load_1) rfl (fun w R => hF w _) hacc) ?_
    rintro v M ⟨rfl, lv', L', rfl, h3, h4⟩
    simp (disch := first | assumption | omega | (simp only [List.length_cons, List.length_nil, List.length_set, List.length_append] <;> omega) | (simp only [get_mid, get_mid0, List.cons_append, List.append_assoc, List.getElem?_cons_zero, List.getElem?_cons_succ])) only [ek, ↓evW, ↓evQ, evB, evS, evL, List.map, AV.cells, List.all, AV.one, Bool.and_true, Bool.true_and, if_true, ↓thenQ_normal, ↓thenQ_exit, ↓thenQ_ret, ↓blockQ_normal, ↓blockQ_ret, ↓blockQ_exit, ↓CW_true, ↓CW_false, CW_true, CW_false, condT, condF, RQ_some, tupA_one, tupA_two, tupA_nil, Nat.reduceSub, Nat.reduceAdd, Nat.reduceMul, Nat.zero_add, Nat.add_zero, Nat.reduceLeDiff, Nat.reduceEqDiff, eqV, eqAll, fillA, and_self, and_true, true_and, Nat.le_refl, Bool.not_true, Bool.not_false, Bool.false_xor, Bool.true_xor, cond_true, cond_false, List.replicate, if_false, reduceIte, resAll, resA, ne_eq, decide_not, decide_true, decide_false, Int.reduceEq, Bool.not_true, Bool.not_false, not_true_eq_false, not_false_eq_true, cond_bool, cond_int, beq_self_eq_true, Int.reduceBEq, Bool.and_self, Bool.and_false, Bool.false_and, Bool.xor_false, Bool.xor_true, loadN_ldC, ldC_none, ldC_somes, stC_aggs, splice, storeN_stC, stC_int, stC_bool, stC_ptr, stC_nilp, stC_sl, stC_nils, getC_gcO, gcO_cells, W_draw_eq, ↓W_scope, ev_clear, evT, evF, evX, evM, ↓exitQ_normal, ↓exitQ_ret, ↓exitQ_exit, saA_self, saO_self, if_pos, if_neg, wrapI, get_concat, set_concat, Int.toNat_natCast, Int.toNat_zero, List.nil_append, Nat.mul_one, decide_eq_true, decide_eq_false, Int.reduceLE, Int.reduceLT, Int.reduceNeg, Bool.false_or, Bool.true_or, Bool.or_false, Bool.or_true, wrapU, Int.reduceAdd, Int.reduceSub, Int.reduceMul]
    exact ⟨lv', L', rfl, h3, h4⟩
  obtain ⟨_, M', h3, rfl, h4⟩ := hrun
  exact ⟨M', h3, h4⟩

set_option maxHeartbeats 4000000 in
theorem store_cc {m M : MM} {i : Nat} (hi : i < m.length) {s s' : MemSt} (h : Cc m i s M) {a o x : Int} {ok : Bool} (hacc : accS 2 (fun _ => (x, true)) s a = some (o, ok, s')) : ∃ M', c_cell_Mem_Store [.ptr i 0, .int .i64 a, .int .u64 x] M = some (.tup [], M') ∧ Cc m i s' M' := by
  obtain ⟨lv, L, rfl, h1, h2⟩ := h
  have hg : ∀ R, (m.set i R ++ (L ++ [Chunk.cells 1 false [.int .u64 x]]))[m.length + L.length]? = some (Chunk.cells 1 false [.int .u64 x]) := fun R => by rw [ms_mid]; simp
  have hF : ∀ (w : Int) (R : Chunk Ob), c_cell_Mem_Store_1 [.int .u64 w, .ptr (m.length + L.length) 0] (m.set i R ++ (L ++ [Chunk.cells 1 false [.int .u64 x]])) = some (.tup [.int .u64 x, .bool true], m.set i R ++ (L ++ [Chunk.cells 1 false [.int .u64 x]])) :=
    fun w R => Fn_eq (Fn_of rfl (by have hgR := hg R; simp (disch := first | assumption | omega | (simp only [List.length_cons, List.length_nil, List.length_set, List.length_append] <;> omega) | (simp only [get_mid, get_mid0, List.cons_append, List.append_assoc, List.getElem?_cons_zero, List.getElem?_cons_succ])) only [cell_Mem_Store_1, ek, ↓evW, ↓evQ, evB, evS, evL, List.map, AV.cells, List.all, AV.one, Bool.and_true, Bool.true_and, if_true, ↓thenQ_normal, ↓thenQ_exit, ↓thenQ_ret, ↓blockQ_normal, ↓blockQ_ret, ↓blockQ_exit, ↓CW_true, ↓CW_false, CW_true, CW_false, condT, condF, RQ_some, tupA_one, tupA_two, tupA_nil, Nat.reduceSub, Nat.reduceAdd, Nat.reduceMul, Nat.zero_add, Nat.add_zero, Nat.reduceLeDiff, Nat.reduceEqDiff, eqV, eqAll, fillA, and_self, and_true, true_and, Nat.le_refl, Bool.not_true, Bool.not_false, Bool.false_xor, Bool.true_xor, cond_true, cond_false, List.replicate, if_false, reduceIte, resAll, resA, ne_eq, decide_not, decide_true, decide_false, Int.reduceEq, Bool.not_true, Bool.not_false, not_true_eq_false, not_false_eq_true, cond_bool, cond_int, beq_self_eq_true, Int.reduceBEq, Bool.and_self, Bool.and_false, Bool.false_and, Bool.xor_false, Bool.xor_true, loadN_ldC, ldC_none, ldC_somes, stC_aggs, splice, storeN_stC, stC_int, stC_bool, stC_ptr, stC_nilp, stC_sl, stC_nils, getC_gcO, gcO_cells, W_draw_eq, ↓W_scope, ev_clear, evT, evF, evX, evM, ↓exitQ_normal, ↓exitQ_ret, ↓exitQ_exit, saA_self, saO_self, if_pos, if_neg, wrapI, get_concat, set_concat, Int.toNat_natCast, Int.toNat_zero, List.nil_append, Nat.mul_one, decide_eq_true, decide_eq_false, Int.reduceLE, Int.reduceLT, Int.reduceNeg, Bool.false_or, Bool.true_or, Bool.or_false, Bool.or_true, wrapU, Int.reduceAdd, Int.reduceSub, Int.reduceMul, hgR]))
  have hrun : Fn [(50, c_cell_Mem_access), (49, c_cell_Mem_Store_1)] cell_Mem_Store [.ptr i 0, .int .i64 a, .int .u64 x] (m.set i (.cells 8 false (rootL s lv (cvA i m.length s))) ++ L) (fun v M => v = .tup [] ∧ Cc m i s' M) := by
    refine Fn_of rfl ?_
    simp (disch := first | assumption | omega | (simp only [List.length_cons, List.length_nil, List.length_set, List.length_append] <;> omega) | (simp only [get_mid, get_mid0, List.cons_append, List.append_assoc, List.getElem?_cons_zero, List.getElem?_cons_succ])) only [cell_Mem_Store, ek, ↓evW, ↓evQ, evB, evS, evL, List.map, AV.cells, List.all, AV.one, Bool.and_true, Bool.true_and, if_true, ↓thenQ_normal, ↓thenQ_exit, ↓thenQ_ret, ↓blockQ_normal, ↓blockQ_ret, ↓blockQ_exit, ↓CW_true, ↓CW_false, CW_true, CW_false, condT, condF, RQ_some, tupA_one, tupA_two, tupA_nil, Nat.reduceSub, Nat.reduceAdd, Nat.reduceMul, Nat.zero_add, Nat.add_zero, Nat.reduceLeDiff, Nat.reduceEqDiff, eqV, eqAll, fillA, and_self, and_true, true_and, Nat.le_refl, Bool.not_true, Bool.not_false, Bool.false_xor, Bool.true_xor, cond_true, cond_false, List.replicate, if_false, reduceIte, resAll, resA, ne_eq, decide_not, decide_true, decide_false, Int.reduceEq, Bool.not_true, Bool.not_false, not_true_eq_false, not_false_eq_true, cond_bool, cond_int, beq_self_eq_true, Int.reduceBEq, Bool.and_self, Bool.and_false, Bool.false_and, Bool.xor_false, Bool.xor_true, loadN_ldC, ldC_none, ldC_somes, stC_aggs, splice, storeN_stC, stC_int, stC_bool, stC_ptr, stC_nilp, stC_sl, stC_nils, getC_gcO, gcO_cells, W_draw_eq, ↓W_scope, ev_clear, evT, evF, evX, evM, ↓exitQ_normal, ↓exitQ_ret, ↓exitQ_exit, saA_self, saO_self, if_pos, if_neg, wrapI, get_concat, set_concat, Int.toNat_natCast, Int.toNat_zero, List.nil_append, Nat.mul_one, decide_eq_true, decide_eq_false, Int.reduceLE, Int.reduceLT, Int.reduceNeg, Bool.false_or, Bool.true_or, Bool.or_false, Bool.or_true, wrapU, Int.reduceAdd, Int.reduceSub, Int.reduceMul, List.append_assoc, List.length_append, List.length_set, List.take, List.drop]
    refine OK_fn (acc_run hi (logAt_app h1 _) (get0_app h2) (F := c_cell_Mem_Store_1) rfl hF hacc) ?_
    rintro v M ⟨rfl, lv', L', rfl, h3, h4⟩
    simp (disch := first | assumption | omega | (simp only [List.length_cons, List.length_nil, List.length_set, List.length_append] <;> omega) | (simp only [get_mid, get_mid0, List.cons_append, List.append_assoc, List.getElem?_cons_zero, List.getElem?_cons_succ])) only [ek, ↓evW, ↓evQ, evB, evS, evL, List.map, AV.cells, List.all, AV.one, Bool.and_true, Bool.true_and, if_true, ↓thenQ_normal, ↓thenQ_exit, ↓thenQ_ret, ↓blockQ_normal, ↓blockQ_ret, ↓blockQ_exit, ↓CW_true, ↓CW_false, CW_true, CW_false, condT, condF, RQ_some, tupA_one, tupA_two, tupA_nil, Nat.reduceSub, Nat.reduceAdd, Nat.reduceMul, Nat.zero_add, Nat.add_zero, Nat.reduceLeDiff, Nat.reduceEqDiff, eqV, eqAll, fillA, and_self, and_true, true_and, Nat.le_refl, Bool.not_true, Bool.not_false, Bool.false_xor, Bool.true_xor, cond_true, cond_false, List.replicate, if_false, reduceIte, resAll, resA, ne_eq, decide_not, decide_true, decide_false, Int.reduceEq, Bool.not_true, Bool.not_false, not_true_eq_false, not_false_eq_true, cond_bool, cond_int, beq_self_eq_true, Int.reduceBEq, Bool.and_self, Bool.and_false, Bool.false_and, Bool.xor_false, Bool.xor_true, loadN_ldC, ldC_none, ldC_somes, stC_aggs, splice, storeN_stC, stC_int, stC_bool, stC_ptr, stC_nilp, stC_sl, stC_nils, getC_gcO, gcO_cells, W_draw_eq, ↓W_scope, ev_clear, evT, evF, evX, evM, ↓exitQ_normal, ↓exitQ_ret, ↓exitQ_exit, saA_self, saO_self, if_pos, if_neg, wrapI, get_concat, set_concat, Int.toNat_natCast, Int.toNat_zero, List.nil_append, Nat.mul_one, decide_eq_true, decide_eq_false, Int.reduceLE, Int.reduceLT, Int.reduceNeg, Bool.false_or, Bool.true_or, Bool.or_false, Bool.or_true, wrapU, Int.reduceAdd, Int.reduceSub, Int.reduceMul]
    exact ⟨lv', L', rfl, h3, h4⟩
  obtain ⟨_, M', h3, rfl, h4⟩ := hrun
  exact ⟨M', h3, h4⟩

set_option maxHeartbeats 4000000 in
theorem cas_cc {m M : MM} {i : Nat} (hi : i < m.length) {s s' : MemSt} (h : Cc m i s M) {a o x y : Int} {ok : Bool} (hacc : accS 3 (fun w => if w = x then (y, true) else (w, false)) s a = some (o, ok, s')) : ∃ M', c_cell_Mem_CAS [.ptr i 0, .int .i64 a, .int .u64 x, .int .u64 y] M = some (.bool ok, M') ∧ Cc m i s' M' := by
  obtain ⟨lv, L, rfl, h1, h2⟩ := h
  have hg0 : ∀ R, (m.set i R ++ (L ++ [Chunk.cells 1 false [.int .u64 x], Chunk.cells 1 false [.int .u64 y]]))[m.length + L.length]? = some (Chunk.cells 1 false [.int .u64 x]) := fun R => by rw [ms_mid]; simp
  have hg1 : ∀ R, (m.set i R ++ (L ++ [Chunk.cells 1 false [.int .u64 x], Chunk.cells 1 false [.int .u64 y]]))[m.length + (L.length + 1)]? = some (Chunk.cells 1 false [.int .u64 y]) := fun R => by rw [ms_mid]; simp
  have hF : ∀ (w : Int) (R : Chunk Ob), c_cell_Mem_CAS_1 [.int .u64 w, .ptr (m.length + L.length) 0, .ptr (m.length + (L.length + 1)) 0] (m.set i R ++ (L ++ [Chunk.cells 1 false [.int .u64 x], Chunk.cells 1 false [.int .u64 y]])) = some (.tup [.int .u64 ((fun w => if w = x then (y, true) else (w, false)) w).1, .bool ((fun w => if w = x then (y, true) else (w, false)) w).2], m.set i R ++ (L ++ [Chunk.cells 1 false [.int .u64 x], Chunk.cells 1 false [.int .u64 y]])) :=
    fun w R => Fn_eq (Fn_of rfl (by have hgR0 := hg0 R; have hgR1 := hg1 R; simp (disch := first | assumption | omega | (simp only [List.length_cons, List.length_nil, List.length_set, List.length_append] <;> omega) | (simp only [get_mid, get_mid0, List.cons_append, List.append_assoc, List.getElem?_cons_zero, List.getElem?_cons_succ])) only [cell_Mem_CAS_1, ek, ↓evW, ↓evQ, evB, evS, evL, List.map, AV.cells, List.all, AV.one, Bool.and_true, Bool.true_and, if_true, ↓thenQ_normal, ↓thenQ_exit, ↓thenQ_ret, ↓blockQ_normal, ↓blockQ_ret, ↓blockQ_exit, ↓CW_true, ↓CW_false, CW_true, CW_false, condT, condF, RQ_some, tupA_one, tupA_two, tupA_nil, Nat.reduceSub, Nat.reduceAdd, Nat.reduceMul, Nat.zero_add, Nat.add_zero, Nat.reduceLeDiff, Nat.reduceEqDiff, eqV, eqAll, fillA, and_self, and_true, true_and, Nat.le_refl, Bool.not_true, Bool.not_false, Bool.false_xor, Bool.true_xor, cond_true, cond_false, List.replicate, if_false, reduceIte, resAll, resA, ne_eq, decide_not, decide_true, decide_false, Int.reduceEq, Bool.not_true, Bool.not_false, not_true_eq_false, not_false_eq_true, cond_bool, cond_int, beq_self_eq_true, Int.reduceBEq, Bool.and_self, Bool.and_false, Bool.false_and, Bool.xor_false, Bool.xor_true, loadN_ldC, ldC_none, ldC_somes, stC_aggs, splice, storeN_stC, stC_int, stC_bool, stC_ptr, stC_nilp, stC_sl, stC_nils, getC_gcO, gcO_cells, W_draw_eq, ↓W_scope, ev_clear, evT, evF, evX, evM, ↓exitQ_normal, ↓exitQ_ret, ↓exitQ_exit, saA_self, saO_self, if_pos, if_neg, wrapI, get_concat, set_concat, Int.toNat_natCast, Int.toNat_zero, List.nil_append, Nat.mul_one, decide_eq_true, decide_eq_false, Int.reduceLE, Int.reduceLT, Int.reduceNeg, Bool.false_or, Bool.true_or, Bool.or_false, Bool.or_true, wrapU, Int.reduceAdd, Int.reduceSub, Int.reduceMul, hgR0, hgR1]; (first | refine GK_of (fun h => ?_) (fun h => ?_) | refine CW_of (fun h => ?_) (fun h => ?_) | refine GKT_of (fun h => ?_) (fun h => ?_)) <;> (try simp only [Bool.not_eq_true', Bool.not_eq_false', decide_eq_true_eq, decide_eq_false_iff_not, Bool.and_eq_true, Bool.or_eq_true, Bool.and_eq_false_iff, Bool.or_eq_false_iff, Decidable.not_not] at h) <;> simp (disch := first | assumption | omega | (simp only [List.length_cons, List.length_nil, List.length_set, List.length_append] <;> omega) | (simp only [get_mid, get_mid0, List.cons_append, List.append_assoc, List.getElem?_cons_zero, List.getElem?_cons_succ])) only [ek, ↓evW, ↓evQ, evB, evS, evL, List.map, AV.cells, List.all, AV.one, Bool.and_true, Bool.true_and, if_true, ↓thenQ_normal, ↓thenQ_exit, ↓thenQ_ret, ↓blockQ_normal, ↓blockQ_ret, ↓blockQ_exit, ↓CW_true, ↓CW_false, CW_true, CW_false, condT, condF, RQ_some, tupA_one, tupA_two, tupA_nil, Nat.reduceSub, Nat.reduceAdd, Nat.reduceMul, Nat.zero_add, Nat.add_zero, Nat.reduceLeDiff, Nat.reduceEqDiff, eqV, eqAll, fillA, and_self, and_true, true_and, Nat.le_refl, Bool.not_true, Bool.not_false, Bool.false_xor, Bool.true_xor, cond_true, cond_false, List.replicate, if_false, reduceIte, resAll, resA, ne_eq, decide_not, decide_true, decide_false, Int.reduceEq, Bool.not_true, Bool.not_false, not_true_eq_false, not_false_eq_true, cond_bool, cond_int, beq_self_eq_true, Int.reduceBEq, Bool.and_self, Bool.and_false, Bool.false_and, Bool.xor_false, Bool.xor_true, loadN_ldC, ldC_none, ldC_somes, stC_aggs, splice, storeN_stC, stC_int, stC_bool, stC_ptr, stC_nilp, stC_sl, stC_nils, getC_gcO, gcO_cells, W_draw_eq, ↓W_scope, ev_clear, evT, evF, evX, evM, ↓exitQ_normal, ↓exitQ_ret, ↓exitQ_exit, saA_self, saO_self, if_pos, if_neg, wrapI, get_concat, set_concat, Int.toNat_natCast, Int.toNat_zero, List.nil_append, Nat.mul_one, decide_eq_true, decide_eq_false, Int.reduceLE, Int.reduceLT, Int.reduceNeg, Bool.false_or, Bool.true_or, Bool.or_false, Bool.or_true, wrapU, Int.reduceAdd, Int.reduceSub, Int.reduceMul, hgR0, hgR1] <;> simp_all))
  have hrun : Fn [(50, c_cell_Mem_access), (51, c_cell_Mem_CAS_1)] cell_Mem_CAS [.ptr i 0, .int .i64 a, .int .u64 x, .int .u64 y] (m.set i (.cells 8 false (rootL s lv (cvA i m.length s))) ++ L) (fun v M => v = .bool ok ∧ Cc m i s' M) := by
    refine Fn_of rfl ?_
    simp (disch := first | assumption | omega | (simp only [List.length_cons, List.length_nil, List.length_set, List.length_append] <;> omega) | (simp only [get_mid, get_mid0, List.cons_append, List.append_assoc, List.getElem?_cons_zero, List.getElem?_cons_succ])) only [cell_Mem_CAS, ek, ↓evW, ↓evQ, evB, evS, evL, List.map, AV.cells, List.all, AV.one, Bool.and_true, Bool.true_and, if_true, ↓thenQ_normal, ↓thenQ_exit, ↓thenQ_ret, ↓blockQ_normal, ↓blockQ_ret, ↓blockQ_exit, ↓CW_true, ↓CW_false, CW_true, CW_false, condT, condF, RQ_some, tupA_one, tupA_two, tupA_nil, Nat.reduceSub, Nat.reduceAdd, Nat.reduceMul, Nat.zero_add, Nat.add_zero, Nat.reduceLeDiff, Nat.reduceEqDiff, eqV, eqAll, fillA, and_self, and_true, true_and, Nat.le_refl, Bool.not_true, Bool.not_false, Bool.false_xor, Bool.true_xor, cond_true, cond_false, List.replicate, if_false, reduceIte, resAll, resA, ne_eq, decide_not, decide_true, decide_false, Int.reduceEq, Bool.not_true, Bool.not_false, not_true_eq_false, not_false_eq_true, cond_bool, cond_int, beq_self_eq_true, Int.reduceBEq, Bool.and_self, Bool.and_false, Bool.false_and, Bool.xor_false, Bool.xor_true, loadN_ldC, ldC_none, ldC_somes, stC_aggs, splice, storeN_stC, stC_int, stC_bool, stC_ptr, stC_nilp, stC_sl, stC_nils, getC_gcO, gcO_cells, W_draw_eq, ↓W_scope, ev_clear, evT, evF, evX, evM, ↓exitQ_normal, ↓exitQ_ret, ↓exitQ_exit, saA_self, saO_self, if_pos, if_neg, wrapI, get_concat, set_concat, Int.toNat_natCast, Int.toNat_zero, List.nil_append, Nat.mul_one, decide_eq_true, decide_eq_false, Int.reduceLE, Int.reduceLT, Int.reduceNeg, Bool.false_or, Bool.true_or, Bool.or_false, Bool.or_true, wrapU, Int.reduceAdd, Int.reduceSub, Int.reduceMul, List.append_assoc, List.length_append, List.length_set, List.take, List.drop, List.cons_append, List.length_cons, List.length_nil]
    refine OK_fn (acc_run hi (logAt_app h1 _) (get0_app h2) (F := c_cell_Mem_CAS_1) rfl hF hacc) ?_
    rintro v M ⟨rfl, lv', L', rfl, h3, h4⟩
    simp (disch := first | assumption | omega | (simp only [List.length_cons, List.length_nil, List.length_set, List.length_append] <;> omega) | (simp only [get_mid, get_mid0, List.cons_append, List.append_assoc, List.getElem?_cons_zero, List.getElem?_cons_succ])) only [ek, ↓evW, ↓evQ, evB, evS, evL, List.map, AV.cells, List.all, AV.one, Bool.and_true, Bool.true_and, if_true, ↓thenQ_normal, ↓thenQ_exit, ↓thenQ_ret, ↓blockQ_normal, ↓blockQ_ret, ↓blockQ_exit, ↓CW_true, ↓CW_false, CW_true, CW_false, condT, condF, RQ_some, tupA_one, tupA_two, tupA_nil, Nat.reduceSub, Nat.reduceAdd, Nat.reduceMul, Nat.zero_add, Nat.add_zero, Nat.reduceLeDiff, Nat.reduceEqDiff, eqV, eqAll, fillA, and_self, and_true, true_and, Nat.le_refl, Bool.not_true, Bool.not_false, Bool.false_xor, Bool.true_xor, cond_true, cond_false, List.replicate, if_false, reduceIte, resAll, resA, ne_eq, decide_not, decide_true, decide_false, Int.reduceEq, Bool.not_true, Bool.not_false, not_true_eq_false, not_false_eq_true, cond_bool, cond_int, beq_self_eq_true, Int.reduceBEq, Bool.and_self, Bool.and_false, Bool.false_and, Bool.xor_false, Bool.xor_true, loadN_ldC, ldC_none, ldC_somes, stC_aggs, splice, storeN_stC, stC_int, stC_bool, stC_ptr, stC_nilp, stC_sl, stC_nils, getC_gcO, gcO_cells, W_draw_eq, ↓W_scope, ev_clear, evT, evF, evX, evM, ↓exitQ_normal, ↓exitQ_ret, ↓exitQ_exit, saA_self, saO_self, if_pos, if_neg, wrapI, get_concat, set_concat, Int.toNat_natCast, Int.toNat_zero, List.nil_append, Nat.mul_one, decide_eq_true, decide_eq_false, Int.reduceLE, Int.reduceLT, Int.reduceNeg, Bool.false_or, Bool.true_or, Bool.or_false, Bool.or_true, wrapU, Int.reduceAdd, Int.reduceSub, Int.reduceMul]
    exact ⟨lv', L', rfl, h3, h4⟩
  obtain ⟨_, M', h3, rfl, h4⟩ := hrun
  exact ⟨M', h3, h4⟩

set_option maxHeartbeats 4000000 in
theorem add_cc {m M : MM} {i : Nat} (hi : i < m.length) {s s' : MemSt} (h : Cc m i s M) {a o x : Int} {ok : Bool} (hacc : accS 4 (fun w => (IntKind.u64.wrap (w + x), true)) s a = some (o, ok, s')) : ∃ M', c_cell_Mem_Add [.ptr i 0, .int .i64 a, .int .u64 x] M = some (.int .u64 o, M') ∧ Cc m i s' M' := by
  obtain ⟨lv, L, rfl, h1, h2⟩ := h
  have hg : ∀ R, (m.set i R ++ (L ++ [Chunk.cells 1 false [.int .u64 x]]))[m.length + L.length]? = some (Chunk.cells 1 false [.int .u64 x]) := fun R => by rw [ms_mid]; simp
  have hF : ∀ (w : Int) (R : Chunk Ob), c_cell_Mem_Add_1 [.int .u64 w, .ptr (m.length + L.length) 0] (m.set i R ++ (L ++ [Chunk.cells 1 false [.int .u64 x]])) = some (.tup [.int .u64 (IntKind.u64.wrap (w + x)), .bool true], m.set i R ++ (L ++ [Chunk.cells 1 false [.int .u64 x]])) :=
    fun w R => Fn_eq (Fn_of rfl (by have hgR := hg R; simp (disch := first | assumption | omega | (simp only [List.length_cons, List.length_nil, List.length_set, List.length_append] <;> omega) | (simp only [get_mid, get_mid0, List.cons_append, List.append_assoc, List.getElem?_cons_zero, List.getElem?_cons_succ])) only [cell_Mem_Add_1, ek, ↓evW, ↓evQ, evB, evS, evL, List.map, AV.cells, List.all, AV.one, Bool.and_true, Bool.true_and, if_true, ↓thenQ_normal, ↓thenQ_exit, ↓thenQ_ret, ↓blockQ_normal, ↓blockQ_ret, ↓blockQ_exit, ↓CW_true, ↓CW_false, CW_true, CW_false, condT, condF, RQ_some, tupA_one, tupA_two, tupA_nil, Nat.reduceSub, Nat.reduceAdd, Nat.reduceMul, Nat.zero_add, Nat.add_zero, Nat.reduceLeDiff, Nat.reduceEqDiff, eqV, eqAll, fillA, and_self, and_true, true_and, Nat.le_refl, Bool.not_true, Bool.not_false, Bool.false_xor, Bool.true_xor, cond_true, cond_false, List.replicate, if_false, reduceIte, resAll, resA, ne_eq, decide_not, decide_true, decide_false, Int.reduceEq, Bool.not_true, Bool.not_false, not_true_eq_false, not_false_eq_true, cond_bool, cond_int, beq_self_eq_true, Int.reduceBEq, Bool.and_self, Bool.and_false, Bool.false_and, Bool.xor_false, Bool.xor_true, loadN_ldC, ldC_none, ldC_somes, stC_aggs, splice, storeN_stC, stC_int, stC_bool, stC_ptr, stC_nilp, stC_sl, stC_nils, getC_gcO, gcO_cells, W_draw_eq, ↓W_scope, ev_clear, evT, evF, evX, evM, ↓exitQ_normal, ↓exitQ_ret, ↓exitQ_exit, saA_self, saO_self, if_pos, if_neg, wrapI, get_concat, set_concat, Int.toNat_natCast, Int.toNat_zero, List.nil_append, Nat.mul_one, decide_eq_true, decide_eq_false, Int.reduceLE, Int.reduceLT, Int.reduceNeg, Bool.false_or, Bool.true_or, Bool.or_false, Bool.or_true, wrapU, Int.reduceAdd, Int.reduceSub, Int.reduceMul, hgR]))
  have hrun : Fn [(50, c_cell_Mem_access), (70, c_cell_Mem_Add_1)] cell_Mem_Add [.ptr i 0, .int .i64 a, .int .u64 x] (m.set i (.cells 8 false (rootL s lv (cvA i m.length s))) ++ L) (fun v M => v = .int .u64 o ∧ Cc m i s' M) := by
    refine Fn_of rfl ?_
    simp (disch := first | assumption | omega | (simp only [List.length_cons, List.length_nil, List.length_set, List.length_append] <;> omega) | (simp only [get_mid, get_mid0, List.cons_append, List.append_assoc, List.getElem?_cons_zero, List.getElem?_cons_succ])) only [cell_Mem_Add, ek, ↓evW, ↓evQ, evB, evS, evL, List.map, AV.cells, List.all, AV.one, Bool.and_true, Bool.true_and, if_true, ↓thenQ_normal, ↓thenQ_exit, ↓thenQ_ret, ↓blockQ_normal, ↓blockQ_ret, ↓blockQ_exit, ↓CW_true, ↓CW_false, CW_true, CW_false, condT, condF, RQ_some, tupA_one, tupA_two, tupA_nil, Nat.reduceSub, Nat.reduceAdd, Nat.reduceMul, Nat.zero_add, Nat.add_zero, Nat.reduceLeDiff, Nat.reduceEqDiff, eqV, eqAll, fillA, and_self, and_true, true_and, Nat.le_refl, Bool.not_true, Bool.not_false, Bool.false_xor, Bool.true_xor, cond_true, cond_false, List.replicate, if_false, reduceIte, resAll, resA, ne_eq, decide_not, decide_true, decide_false, Int.reduceEq, Bool.not_true, Bool.not_false, not_true_eq_false, not_false_eq_true, cond_bool, cond_int, beq_self_eq_true, Int.reduceBEq, Bool.and_self, Bool.and_false, Bool.false_and, Bool.xor_false, Bool.xor_true, loadN_ldC, ldC_none, ldC_somes, stC_aggs, splice, storeN_stC, stC_int, stC_bool, stC_ptr, stC_nilp, stC_sl, stC_nils, getC_gcO, gcO_cells, W_draw_eq, ↓W_scope, ev_clear, evT, evF, evX, evM, ↓exitQ_normal, ↓exitQ_ret, ↓exitQ_exit, saA_self, saO_self, if_pos, if_neg, wrapI, get_concat, set_concat, Int.toNat_natCast, Int.toNat_zero, List.nil_append, Nat.mul_one, decide_eq_true, decide_eq_false, Int.reduceLE, Int.reduceLT, Int.reduceNeg, Bool.false_or, Bool.true_or, Bool.or_false, Bool.or_true, wrapU, Int.reduceAdd, Int.reduceSub, Int.reduceMul, List.append_assoc, List.length_append, List.length_set, List.take, List.drop]
    refine OK_fn (acc_run hi (logAt_app h1 _) (get0_app h2) (F := c_cell_Mem_Add_1) rfl hF hacc) ?_
    rintro v M ⟨rfl, lv', L', rfl, h3, h4⟩
    simp (disch := first | assumption | omega | (simp only [List.length_cons, List.length_nil, List.length_set, List.length_append] <;> omega) | (simp only [get_mid, get_mid0, List.cons_append, List.append_assoc, List.getElem?_cons_zero, List.getElem?_cons_succ])) only [ek, ↓evW, ↓evQ, evB, evS, evL, List.map, AV.cells, List.all, AV.one, Bool.and_true, Bool.true_and, if_true, ↓thenQ_normal, ↓thenQ_exit, ↓thenQ_ret, ↓blockQ_normal, ↓blockQ_ret, ↓blockQ_exit, ↓CW_true, ↓CW_false, CW_true, CW_false, condT, condF, RQ_some, tupA_one, tupA_two, tupA_nil, Nat.reduceSub, Nat.reduceAdd, Nat.reduceMul, Nat.zero_add, Nat.add_zero, Nat.reduceLeDiff, Nat.reduceEqDiff, eqV, eqAll, fillA, and_self, and_true, true_and, Nat.le_refl, Bool.not_true, Bool.not_false, Bool.false_xor, Bool.true_xor, cond_true, cond_false, List.replicate, if_false, reduceIte, resAll, resA, ne_eq, decide_not, decide_true, decide_false, Int.reduceEq, Bool.not_true, Bool.not_false, not_true_eq_false, not_false_eq_true, cond_bool, cond_int, beq_self_eq_true, Int.reduceBEq, Bool.and_self, Bool.and_false, Bool.false_and, Bool.xor_false, Bool.xor_true, loadN_ldC, ldC_none, ldC_somes, stC_aggs, splice, storeN_stC, stC_int, stC_bool, stC_ptr, stC_nilp, stC_sl, stC_nils, getC_gcO, gcO_cells, W_draw_eq, ↓W_scope, ev_clear, evT, evF, evX, evM, ↓exitQ_normal, ↓exitQ_ret, ↓exitQ_exit, saA_self, saO_self, if_pos, if_neg, wrapI, get_concat, set_concat, Int.toNat_natCast, Int.toNat_zero, List.nil_append, Nat.mul_one, decide_eq_true, decide_eq_false, Int.reduceLE, Int.reduceLT, Int.reduceNeg, Bool.false_or, Bool.true_or, Bool.or_false, Bool.or_true, wrapU, Int.reduceAdd, Int.reduceSub, Int.reduceMul]
    exact ⟨lv', L', rfl, h3, h4⟩
  obtain ⟨_, M', h3, rfl, h4⟩ := hrun
  exact ⟨M', h3, h4⟩

/- Accesses, as a slice has them. -/
def decA : Nat → List AV → Option (List Acc)
  | 0, _ => some []
  | n + 1, .int .i64 k :: .int .i64 a :: .int .u64 o :: .int .u64 w :: r => (decA n r).map (⟨k, a, o, w⟩ :: ·)
  | _, _ => none
theorem decA_ok : ∀ (es : List Acc) (r : List AV), decA es.length (es.flatMap accC ++ r) = some es
  | [], r => rfl
  | e :: es, r => by
    rw [List.flatMap_cons, List.append_assoc]
    simp only [accC, List.length_cons, List.cons_append, List.nil_append, decA, decA_ok es r, Option.map_some]
theorem decA_inv : ∀ (n : Nat) {l : List AV} {es : List Acc}, decA n l = some es → es.length = n ∧ ∃ r, l = es.flatMap accC ++ r
  | 0, l, es, h => by
    simp only [decA, Option.some.injEq] at h
    subst h; exact ⟨rfl, l, rfl⟩
  | n + 1, l, es, h => by
    unfold decA at h
    split at h
    · omega
    · rename_i n' k a o w r heq
      injection heq with heq; subst heq
      cases hd : decA n r with
      | none => rw [hd] at h; cases h
      | some es' =>
        rw [hd] at h
        simp only [Option.map_some, Option.some.injEq] at h
        subst h
        obtain ⟨h1, r', h2⟩ := decA_inv n hd
        exact ⟨by simp [h1], r', by rw [List.flatMap_cons, h2]; rfl⟩
    · cases h
def accsOf (m : MM) : AV → Option (List Acc)
  | .nils => some []
  | .sl q o n _ => if n = 0 then some [] else match m[q]? with
    | some (.cells 4 _ L) => if o + n * 4 ≤ L.length then decA n (L.drop o) else none
    | _ => none
  | _ => none
theorem accsOf_sa {m : MM} {wr : Bool} {es : List Acc} {v : AV} (h : SA m wr es v) : accsOf m v = some es := by
  rcases Nat.eq_zero_or_pos es.length with h0 | h0
  · have : es = [] := List.length_eq_zero_iff.1 h0
    subst this
    rcases h.2 with ⟨rfl, _⟩ | ⟨q, o, cap, rfl, _⟩ <;> rfl
  · obtain ⟨q, o, cap, ro, L, rfl, h2, h3, h4, _⟩ := h.at h0
    simp only [accsOf, h2]
    rw [if_neg (by omega), if_pos h4]
    have := List.take_append_drop (es.length * 4) (L.drop o)
    rw [← this, h3]
    exact decA_ok es _
theorem sa_of {m : MM} {es : List Acc} {v : AV} (h : accsOf m v = some es) : SA m false es v := by
  unfold accsOf at h
  split at h
  · injection h with h; subst h; exact Sl.nil
  · rename_i q o n c
    split at h
    · injection h with h; subst h
      rename_i h0; subst h0
      exact ⟨rfl, .inr ⟨q, o, c, rfl, fun h => by cases h⟩⟩
    · split at h
      · rename_i ro L hq
        split at h
        · rename_i hl
          obtain ⟨h1, r, h2⟩ := decA_inv n h
          subst h1
          exact ⟨accs_len _, .inr ⟨q, o, c, rfl, fun _ => ⟨ro, L, hq, by rw [h2, ← accs_len, List.take_left], hl, fun h => by cases h⟩⟩⟩
        · cases h
      · cases h
  · cases h

def okR (s : MemSt) (e : Acc) : Prop := 0 ≤ e.at' ∧ e.at' < s.cells.length ∧ s.cells.getD e.at'.toNat 0 = e.old ∧ (e.kind = 1 → e.new = e.old) ∧ 1 ≤ e.kind ∧ e.kind ≤ 4
instance (s : MemSt) (e : Acc) : Decidable (okR s e) := by unfold okR; infer_instance
def stepS (s : MemSt) (e : Acc) : Option MemSt :=
  if e.kind = 1 then (accS 1 (fun w => (w, true)) s e.at').map (·.2.2)
  else if e.kind = 2 then (accS 2 (fun _ => (e.new, true)) s e.at').map (·.2.2)
  else if e.kind = 3 then (accS 3 (fun w => if w = e.old then (e.new, true) else (w, false)) s e.at').map (·.2.2)
  else (accS 4 (fun w => (IntKind.u64.wrap (w + IntKind.u64.wrap (e.new - e.old)), true)) s e.at').map (·.2.2)
def redoS : MemSt → List Acc → Option (MemSt × Nat)
  | s, [] => some (s, 0)
  | s, e :: l => if okR s e then match stepS s e with
      | some s' => (redoS s' l).map fun r => (r.1, r.2 + 1)
      | none => none
    else some (s, 0)
def redoF : AFun Ob := fun args m => match args with
  | [.ptr i 0, v] => match m[i]?, accsOf m v with
    | some (.abs (.mem s)), some es => if es.length ≤ 1000 then (match redoS s es with
      | some r => some (.int .i64 r.2, m.set i (.abs (.mem r.1)))
      | none => none) else none
    | _, _ => none
  | _ => none

/-- A step's memory, and what the cells were. -/
theorem Cc.cells {m M : MM} {i : Nat} {s : MemSt} (h : Cc m i s M) : M[m.length]? = some (.cells 1 false (uC s.cells)) := by
  obtain ⟨lv, L, rfl, h1, h2⟩ := h
  rw [ms_mid0]; exact h2
theorem Cc.root {m M : MM} {i : Nat} (hi : i < m.length) {s : MemSt} (h : Cc m i s M) : ∃ lv, M[i]? = some (.cells 8 false (rootL s lv (cvA i m.length s))) := by
  obtain ⟨lv, L, rfl, h1, h2⟩ := h
  exact ⟨lv, ms_root hi _ _⟩
theorem Cc.there {m M : MM} {i : Nat} (hi : i < m.length) {s : MemSt} (h : Cc m i s M) (a : Int) : c_cell_Mem_there [.ptr i 0, .int .i64 a] M = some (.bool (decide (0 ≤ a) && decide (a < s.cells.length)), M) := by
  obtain ⟨lv, L, rfl, h1, h2⟩ := h
  exact there_run hi s lv m.length L a
theorem Cc.keep {m M : MM} {i : Nat} {s : MemSt} (h : Cc m i s M) : KeepB i m M := by
  obtain ⟨lv, L, rfl, h1, h2⟩ := h
  exact (KeepB.at m _).trans (KeepB.app _ _)

def RdI (m : MM) (i : Nat) (v : AV) (es : List Acc) (res : MemSt × Nat) (k : Nat) (e : List AV) (M : MM) : Prop := ∃ (x : Nat) (s : MemSt) (y3 y4 y8 y9 y10 y11 y12 y13 y14 : AV),
  e = [.ptr i 0, v, .int .i64 0, y3, y4, v, .int .i64 es.length, .int .i64 x, y8, y9, y10, y11, y12, y13, y14] ∧ k = es.length - x ∧ x ≤ es.length ∧ Cc m i s M ∧ ∃ r, redoS s (es.drop x) = some r ∧ res = (r.1, x + r.2)

def Gredo : List (Nat × AFun Ob) := [(56, c_cell_Mem_there), (24, c_cell_Mem_Load), (22, c_cell_Mem_Store), (23, c_cell_Mem_CAS), (44, c_cell_Mem_Add)]
theorem redo_c : c_cell_Redo = amFunc Gredo cell_Redo := rfl

set_option maxHeartbeats 8000000 in
theorem redo_walk {m M0 : MM} {i : Nat} (hi : i < m.length) {x : Ob} (hx : m[i]? = some (.abs x)) {s : MemSt} {es : List Acc} {v : AV} (hv : SA m false es v) (hl : es.length ≤ 1000) (hM : Cc m i s M0) {res : MemSt × Nat} (hr : redoS s es = some res) :
    Fn Gredo cell_Redo [.ptr i 0, v] M0 (fun r M => r = .int .i64 res.2 ∧ Cc m i res.1 M) := by
  have a56 : assoc Gredo 56 = some c_cell_Mem_there := rfl
  have a24 : assoc Gredo 24 = some c_cell_Mem_Load := rfl
  have a22 : assoc Gredo 22 = some c_cell_Mem_Store := rfl
  have a23 : assoc Gredo 23 = some c_cell_Mem_CAS := rfl
  have a44 : assoc Gredo 44 = some c_cell_Mem_Add := rfl
  generalize Gredo = G at a56 a24 a22 a23 a44
  have hlen := hv.len
  refine Fn_of rfl ?_
  simp (disch := first | assumption | omega | (simp only [List.length_cons, List.length_nil, List.length_set, List.length_append] <;> omega) | (simp only [get_mid, get_mid0, List.cons_append, List.append_assoc, List.getElem?_cons_zero, List.getElem?_cons_succ])) only [cell_Redo, ek, ↓evW, ↓evQ, evB, evS, evL, List.map, AV.cells, List.all, AV.one, Bool.and_true, Bool.true_and, if_true, ↓thenQ_normal, ↓thenQ_exit, ↓thenQ_ret, ↓blockQ_normal, ↓blockQ_ret, ↓blockQ_exit, ↓CW_true, ↓CW_false, CW_true, CW_false, condT, condF, RQ_some, tupA_one, tupA_two, tupA_nil, Nat.reduceSub, Nat.reduceAdd, Nat.reduceMul, Nat.zero_add, Nat.add_zero, Nat.reduceLeDiff, Nat.reduceEqDiff, eqV, eqAll, fillA, and_self, and_true, true_and, Nat.le_refl, Bool.not_true, Bool.not_false, Bool.false_xor, Bool.true_xor, cond_true, cond_false, List.replicate, if_false, reduceIte, resAll, resA, ne_eq, decide_not, decide_true, decide_false, Int.reduceEq, Bool.not_true, Bool.not_false, not_true_eq_false, not_false_eq_true, cond_bool, cond_int, beq_self_eq_true, Int.reduceBEq, Bool.and_self, Bool.and_false, Bool.false_and, Bool.xor_false, Bool.xor_true, loadN_ldC, ldC_none, ldC_somes, stC_aggs, splice, storeN_stC, stC_int, stC_bool, stC_ptr, stC_nilp, stC_sl, stC_nils, getC_gcO, gcO_cells, W_draw_eq, ↓W_scope, ev_clear, evT, evF, evX, evM, ↓exitQ_normal, ↓exitQ_ret, ↓exitQ_exit, saA_self, saO_self, if_pos, if_neg, wrapI, get_concat, set_concat, Int.toNat_natCast, Int.toNat_zero, List.nil_append, Nat.mul_one, decide_eq_true, decide_eq_false, Int.reduceLE, Int.reduceLT, Int.reduceNeg, Bool.false_or, Bool.true_or, Bool.or_false, Bool.or_true, wrapU, Int.reduceAdd, Int.reduceSub, Int.reduceMul, ev_len, hlen]
  refine W_loop (RdI m i v es res) es.length (by simp only [FUEL]; omega) ⟨0, s, _, _, _, _, _, _, _, _, _, rfl, rfl, by omega, hM, res, hr, by simp⟩ ?_
  clear hr hM
  rintro k e M ⟨x', s, y3, y4, y8, y9, y10, y11, y12, y13, y14, rfl, rfl, hxl, hM, r, hr, rfl⟩
  simp (disch := first | assumption | omega | (simp only [List.length_cons, List.length_nil, List.length_set, List.length_append] <;> omega) | (simp only [get_mid, get_mid0, List.cons_append, List.append_assoc, List.getElem?_cons_zero, List.getElem?_cons_succ])) only [ek, ↓evW, ↓evQ, evB, evS, evL, List.map, AV.cells, List.all, AV.one, Bool.and_true, Bool.true_and, if_true, ↓thenQ_normal, ↓thenQ_exit, ↓thenQ_ret, ↓blockQ_normal, ↓blockQ_ret, ↓blockQ_exit, ↓CW_true, ↓CW_false, CW_true, CW_false, condT, condF, RQ_some, tupA_one, tupA_two, tupA_nil, Nat.reduceSub, Nat.reduceAdd, Nat.reduceMul, Nat.zero_add, Nat.add_zero, Nat.reduceLeDiff, Nat.reduceEqDiff, eqV, eqAll, fillA, and_self, and_true, true_and, Nat.le_refl, Bool.not_true, Bool.not_false, Bool.false_xor, Bool.true_xor, cond_true, cond_false, List.replicate, if_false, reduceIte, resAll, resA, ne_eq, decide_not, decide_true, decide_false, Int.reduceEq, Bool.not_true, Bool.not_false, not_true_eq_false, not_false_eq_true, cond_bool, cond_int, beq_self_eq_true, Int.reduceBEq, Bool.and_self, Bool.and_false, Bool.false_and, Bool.xor_false, Bool.xor_true, loadN_ldC, ldC_none, ldC_somes, stC_aggs, splice, storeN_stC, stC_int, stC_bool, stC_ptr, stC_nilp, stC_sl, stC_nils, getC_gcO, gcO_cells, W_draw_eq, ↓W_scope, ev_clear, evT, evF, evX, evM, ↓exitQ_normal, ↓exitQ_ret, ↓exitQ_exit, saA_self, saO_self, if_pos, if_neg, wrapI, get_concat, set_concat, Int.toNat_natCast, Int.toNat_zero, List.nil_append, Nat.mul_one, decide_eq_true, decide_eq_false, Int.reduceLE, Int.reduceLT, Int.reduceNeg, Bool.false_or, Bool.true_or, Bool.or_false, Bool.or_true, wrapU, Int.reduceAdd, Int.reduceSub, Int.reduceMul]
  refine CW_of (fun h => ?_) (fun h => ?_)
  · simp only [decide_eq_true_eq] at h
    obtain ⟨⟨k, a, o, w⟩, he⟩ : ∃ e, es[x']? = some e := ⟨_, List.getElem?_eq_getElem (by omega)⟩
    have hd : es.drop x' = ⟨k, a, o, w⟩ :: es.drop (x' + 1) := by rw [List.drop_eq_getElem?_toList_append, he]; rfl
    rw [hd] at hr
    have hvM : SA M false es v := hM.keep.sl hx hv
    obtain ⟨q, oo, cap, ro, L, rfl, b2, b3, b4, b5, b6, b7, b8, b9, b10⟩ := hvM.get he
    have hlM : m.length < M.length := (List.getElem?_eq_some_iff.1 hM.cells).1
    have hMa := hM.app [Chunk.cells 4 false (accC ⟨k, a, o, w⟩)]
    have hth := hMa.there hi a
    obtain ⟨lv, hroot⟩ := hMa.root hi
    have hcell := hMa.cells
    simp only [accC] at hMa hth hroot hcell b6
    have hr7 : ∀ (s : MemSt) lv cv, (rootL s lv cv)[7]? = some cv := fun _ _ _ => rfl
    by_cases hat : 0 ≤ a ∧ a < s.cells.length
    · have hb : (decide (0 ≤ a) && decide (a < (s.cells.length : Int))) = true := by simp [hat]
      rw [hb] at hth
      have hne : s.cells ≠ [] := fun h => by rw [h] at hat; simp at hat; omega
      have hcv : cvA i m.length s = .sl m.length 0 s.cells.length (if s.ck then some s.cells.length else none) := if_neg hne
      rw [hcv] at hroot
      have hold : s.cells[a.toNat]? = some (s.cells.getD a.toNat 0) := by rw [List.getD_eq_getElem?_getD, List.getElem?_eq_getElem (by omega)]; rfl
      have hu : (uC s.cells)[a.toNat]? = some (.int .u64 (s.cells.getD a.toNat 0)) := by rw [uC, List.getElem?_map, hold]; rfl
      have hat1 := hat.1
      have hat2 := hat.2
      by_cases hok : okR s ⟨k, a, o, w⟩
      · obtain ⟨_, _, h3, h4, h5, h6⟩ := id hok
        simp only at h3 h4 h5 h6
        rw [h3] at hu
        simp only [redoS, if_pos hok] at hr
        have fin : ∀ (s' : MemSt) (M' : MM), stepS s ⟨k, a, o, w⟩ = some s' → Cc m i s' M' → ∀ y3 y4 y8 y9 y10 y11 y12 y13 y14 : AV, ∃ k', k' < es.length - x' ∧ RdI m i (.sl q oo es.length cap) es (r.1, x' + r.2) k' [.ptr i 0, .sl q oo es.length cap, .int .i64 0, y3, y4, .sl q oo es.length cap, .int .i64 es.length, .int .i64 ((x' : Int) + 1), y8, y9, y10, y11, y12, y13, y14] M' := by
          intro s' M' hs' hM' y3 y4 y8 y9 y10 y11 y12 y13 y14
          rw [hs'] at hr
          simp only at hr
          cases hrr : redoS s' (es.drop (x' + 1)) with
          | none => rw [hrr] at hr; cases hr
          | some r' =>
            rw [hrr] at hr
            simp only [Option.map_some, Option.some.injEq] at hr
            exact ⟨_, by omega, x' + 1, s', _, _, _, _, _, _, _, _, _, rfl, rfl, by omega, hM', r', hrr, by rw [← hr]; simp; omega⟩
        rcases (show k = 1 ∨ k = 2 ∨ k = 3 ∨ k = 4 by omega) with rfl | rfl | rfl | rfl
        · have hw := h4 rfl
          subst hw
          cases hacc : accS 1 (fun w => (w, true)) s a with
          | none => exfalso; simp [stepS, hacc] at hr
          | some t =>
            obtain ⟨o', ok, s'⟩ := t
            obtain ⟨M', hrun, hM'⟩ := load_cc hi hMa hacc
            simp (disch := first | assumption | omega | (simp only [List.length_cons, List.length_nil, List.length_set, List.length_append] <;> omega) | (simp only [get_mid, get_mid0, List.cons_append, List.append_assoc, List.getElem?_cons_zero, List.getElem?_cons_succ])) only [ek, ↓evW, ↓evQ, evB, evS, evL, List.map, AV.cells, List.all, AV.one, Bool.and_true, Bool.true_and, if_true, ↓thenQ_normal, ↓thenQ_exit, ↓thenQ_ret, ↓blockQ_normal, ↓blockQ_ret, ↓blockQ_exit, ↓CW_true, ↓CW_false, CW_true, CW_false, condT, condF, RQ_some, tupA_one, tupA_two, tupA_nil, Nat.reduceSub, Nat.reduceAdd, Nat.reduceMul, Nat.zero_add, Nat.add_zero, Nat.reduceLeDiff, Nat.reduceEqDiff, eqV, eqAll, fillA, and_self, and_true, true_and, Nat.le_refl, Bool.not_true, Bool.not_false, Bool.false_xor, Bool.true_xor, cond_true, cond_false, List.replicate, if_false, reduceIte, resAll, resA, ne_eq, decide_not, decide_true, decide_false, Int.reduceEq, Bool.not_true, Bool.not_false, not_true_eq_false, not_false_eq_true, cond_bool, cond_int, beq_self_eq_true, Int.reduceBEq, Bool.and_self, Bool.and_false, Bool.false_and, Bool.xor_false, Bool.xor_true, loadN_ldC, ldC_none, ldC_somes, stC_aggs, splice, storeN_stC, stC_int, stC_bool, stC_ptr, stC_nilp, stC_sl, stC_nils, getC_gcO, gcO_cells, W_draw_eq, ↓W_scope, ev_clear, evT, evF, evX, evM, ↓exitQ_normal, ↓exitQ_ret, ↓exitQ_exit, saA_self, saO_self, if_pos, if_neg, wrapI, get_concat, set_concat, Int.toNat_natCast, Int.toNat_zero, List.nil_append, Nat.mul_one, decide_eq_true, decide_eq_false, Int.reduceLE, Int.reduceLT, Int.reduceNeg, Bool.false_or, Bool.true_or, Bool.or_false, Bool.or_true, wrapU, Int.reduceAdd, Int.reduceSub, Int.reduceMul, List.append_nil, b2, b6, a56, hth, hroot, hr7, hcell, hu, a24, hrun]
            exact fin s' M' (by simp [stepS, hacc]) hM' _ _ _ _ _ _ _ _ _
        · skip
          cases hacc : accS 2 (fun _ => (w, true)) s a with
          | none => exfalso; simp [stepS, hacc] at hr
          | some t =>
            obtain ⟨o', ok, s'⟩ := t
            obtain ⟨M', hrun, hM'⟩ := store_cc hi hMa hacc
            simp (disch := first | assumption | omega | (simp only [List.length_cons, List.length_nil, List.length_set, List.length_append] <;> omega) | (simp only [get_mid, get_mid0, List.cons_append, List.append_assoc, List.getElem?_cons_zero, List.getElem?_cons_succ])) only [ek, ↓evW, ↓evQ, evB, evS, evL, List.map, AV.cells, List.all, AV.one, Bool.and_true, Bool.true_and, if_true, ↓thenQ_normal, ↓thenQ_exit, ↓thenQ_ret, ↓blockQ_normal, ↓blockQ_ret, ↓blockQ_exit, ↓CW_true, ↓CW_false, CW_true, CW_false, condT, condF, RQ_some, tupA_one, tupA_two, tupA_nil, Nat.reduceSub, Nat.reduceAdd, Nat.reduceMul, Nat.zero_add, Nat.add_zero, Nat.reduceLeDiff, Nat.reduceEqDiff, eqV, eqAll, fillA, and_self, and_true, true_and, Nat.le_refl, Bool.not_true, Bool.not_false, Bool.false_xor, Bool.true_xor, cond_true, cond_false, List.replicate, if_false, reduceIte, resAll, resA, ne_eq, decide_not, decide_true, decide_false, Int.reduceEq, Bool.not_true, Bool.not_false, not_true_eq_false, not_false_eq_true, cond_bool, cond_int, beq_self_eq_true, Int.reduceBEq, Bool.and_self, Bool.and_false, Bool.false_and, Bool.xor_false, Bool.xor_true, loadN_ldC, ldC_none, ldC_somes, stC_aggs, splice, storeN_stC, stC_int, stC_bool, stC_ptr, stC_nilp, stC_sl, stC_nils, getC_gcO, gcO_cells, W_draw_eq, ↓W_scope, ev_clear, evT, evF, evX, evM, ↓exitQ_normal, ↓exitQ_ret, ↓exitQ_exit, saA_self, saO_self, if_pos, if_neg, wrapI, get_concat, set_concat, Int.toNat_natCast, Int.toNat_zero, List.nil_append, Nat.mul_one, decide_eq_true, decide_eq_false, Int.reduceLE, Int.reduceLT, Int.reduceNeg, Bool.false_or, Bool.true_or, Bool.or_false, Bool.or_true, wrapU, Int.reduceAdd, Int.reduceSub, Int.reduceMul, List.append_nil, b2, b6, a56, hth, hroot, hr7, hcell, hu, a22, hrun]
            exact fin s' M' (by simp [stepS, hacc]) hM' _ _ _ _ _ _ _ _ _
        · skip
          cases hacc : accS 3 (fun u => if u = o then (w, true) else (u, false)) s a with
          | none => exfalso; simp [stepS, hacc] at hr
          | some t =>
            obtain ⟨o', ok, s'⟩ := t
            obtain ⟨M', hrun, hM'⟩ := cas_cc hi hMa hacc
            simp (disch := first | assumption | omega | (simp only [List.length_cons, List.length_nil, List.length_set, List.length_append] <;> omega) | (simp only [get_mid, get_mid0, List.cons_append, List.append_assoc, List.getElem?_cons_zero, List.getElem?_cons_succ])) only [ek, ↓evW, ↓evQ, evB, evS, evL, List.map, AV.cells, List.all, AV.one, Bool.and_true, Bool.true_and, if_true, ↓thenQ_normal, ↓thenQ_exit, ↓thenQ_ret, ↓blockQ_normal, ↓blockQ_ret, ↓blockQ_exit, ↓CW_true, ↓CW_false, CW_true, CW_false, condT, condF, RQ_some, tupA_one, tupA_two, tupA_nil, Nat.reduceSub, Nat.reduceAdd, Nat.reduceMul, Nat.zero_add, Nat.add_zero, Nat.reduceLeDiff, Nat.reduceEqDiff, eqV, eqAll, fillA, and_self, and_true, true_and, Nat.le_refl, Bool.not_true, Bool.not_false, Bool.false_xor, Bool.true_xor, cond_true, cond_false, List.replicate, if_false, reduceIte, resAll, resA, ne_eq, decide_not, decide_true, decide_false, Int.reduceEq, Bool.not_true, Bool.not_false, not_true_eq_false, not_false_eq_true, cond_bool, cond_int, beq_self_eq_true, Int.reduceBEq, Bool.and_self, Bool.and_false, Bool.false_and, Bool.xor_false, Bool.xor_true, loadN_ldC, ldC_none, ldC_somes, stC_aggs, splice, storeN_stC, stC_int, stC_bool, stC_ptr, stC_nilp, stC_sl, stC_nils, getC_gcO, gcO_cells, W_draw_eq, ↓W_scope, ev_clear, evT, evF, evX, evM, ↓exitQ_normal, ↓exitQ_ret, ↓exitQ_exit, saA_self, saO_self, if_pos, if_neg, wrapI, get_concat, set_concat, Int.toNat_natCast, Int.toNat_zero, List.nil_append, Nat.mul_one, decide_eq_true, decide_eq_false, Int.reduceLE, Int.reduceLT, Int.reduceNeg, Bool.false_or, Bool.true_or, Bool.or_false, Bool.or_true, wrapU, Int.reduceAdd, Int.reduceSub, Int.reduceMul, List.append_nil, b2, b6, a56, hth, hroot, hr7, hcell, hu, a23, hrun]
            exact fin s' M' (by simp [stepS, hacc]) hM' _ _ _ _ _ _ _ _ _
        · skip
          cases hacc : accS 4 (fun u => (IntKind.u64.wrap (u + IntKind.u64.wrap (w - o)), true)) s a with
          | none => exfalso; simp [stepS, hacc] at hr
          | some t =>
            obtain ⟨o', ok, s'⟩ := t
            obtain ⟨M', hrun, hM'⟩ := add_cc hi hMa hacc
            simp (disch := first | assumption | omega | (simp only [List.length_cons, List.length_nil, List.length_set, List.length_append] <;> omega) | (simp only [get_mid, get_mid0, List.cons_append, List.append_assoc, List.getElem?_cons_zero, List.getElem?_cons_succ])) only [ek, ↓evW, ↓evQ, evB, evS, evL, List.map, AV.cells, List.all, AV.one, Bool.and_true, Bool.true_and, if_true, ↓thenQ_normal, ↓thenQ_exit, ↓thenQ_ret, ↓blockQ_normal, ↓blockQ_ret, ↓blockQ_exit, ↓CW_true, ↓CW_false, CW_true, CW_false, condT, condF, RQ_some, tupA_one, tupA_two, tupA_nil, Nat.reduceSub, Nat.reduceAdd, Nat.reduceMul, Nat.zero_add, Nat.add_zero, Nat.reduceLeDiff, Nat.reduceEqDiff, eqV, eqAll, fillA, and_self, and_true, true_and, Nat.le_refl, Bool.not_true, Bool.not_false, Bool.false_xor, Bool.true_xor, cond_true, cond_false, List.replicate, if_false, reduceIte, resAll, resA, ne_eq, decide_not, decide_true, decide_false, Int.reduceEq, Bool.not_true, Bool.not_false, not_true_eq_false, not_false_eq_true, cond_bool, cond_int, beq_self_eq_true, Int.reduceBEq, Bool.and_self, Bool.and_false, Bool.false_and, Bool.xor_false, Bool.xor_true, loadN_ldC, ldC_none, ldC_somes, stC_aggs, splice, storeN_stC, stC_int, stC_bool, stC_ptr, stC_nilp, stC_sl, stC_nils, getC_gcO, gcO_cells, W_draw_eq, ↓W_scope, ev_clear, evT, evF, evX, evM, ↓exitQ_normal, ↓exitQ_ret, ↓exitQ_exit, saA_self, saO_self, if_pos, if_neg, wrapI, get_concat, set_concat, Int.toNat_natCast, Int.toNat_zero, List.nil_append, Nat.mul_one, decide_eq_true, decide_eq_false, Int.reduceLE, Int.reduceLT, Int.reduceNeg, Bool.false_or, Bool.true_or, Bool.or_false, Bool.or_true, wrapU, Int.reduceAdd, Int.reduceSub, Int.reduceMul, List.append_nil, b2, b6, a56, hth, hroot, hr7, hcell, hu, a44, hrun]
            exact fin s' M' (by simp [stepS, hacc]) hM' _ _ _ _ _ _ _ _ _
      · have hno : (s.cells.getD a.toNat 0 = o ∧ (k = 1 → w = o) ∧ 1 ≤ k ∧ k ≤ 4) → False := fun h => hok ⟨hat1, hat2, h.1, h.2.1, h.2.2.1, h.2.2.2⟩
        simp only [redoS, if_neg hok, Option.some.injEq] at hr
        subst hr
        clear hok
        generalize s.cells.getD a.toNat 0 = u at hu hno
        simp (disch := first | assumption | omega | (simp only [List.length_cons, List.length_nil, List.length_set, List.length_append] <;> omega) | (simp only [get_mid, get_mid0, List.cons_append, List.append_assoc, List.getElem?_cons_zero, List.getElem?_cons_succ])) only [ek, ↓evW, ↓evQ, evB, evS, evL, List.map, AV.cells, List.all, AV.one, Bool.and_true, Bool.true_and, if_true, ↓thenQ_normal, ↓thenQ_exit, ↓thenQ_ret, ↓blockQ_normal, ↓blockQ_ret, ↓blockQ_exit, ↓CW_true, ↓CW_false, CW_true, CW_false, condT, condF, RQ_some, tupA_one, tupA_two, tupA_nil, Nat.reduceSub, Nat.reduceAdd, Nat.reduceMul, Nat.zero_add, Nat.add_zero, Nat.reduceLeDiff, Nat.reduceEqDiff, eqV, eqAll, fillA, and_self, and_true, true_and, Nat.le_refl, Bool.not_true, Bool.not_false, Bool.false_xor, Bool.true_xor, cond_true, cond_false, List.replicate, if_false, reduceIte, resAll, resA, ne_eq, decide_not, decide_true, decide_false, Int.reduceEq, Bool.not_true, Bool.not_false, not_true_eq_false, not_false_eq_true, cond_bool, cond_int, beq_self_eq_true, Int.reduceBEq, Bool.and_self, Bool.and_false, Bool.false_and, Bool.xor_false, Bool.xor_true, loadN_ldC, ldC_none, ldC_somes, stC_aggs, splice, storeN_stC, stC_int, stC_bool, stC_ptr, stC_nilp, stC_sl, stC_nils, getC_gcO, gcO_cells, W_draw_eq, ↓W_scope, ev_clear, evT, evF, evX, evM, ↓exitQ_normal, ↓exitQ_ret, ↓exitQ_exit, saA_self, saO_self, if_pos, if_neg, wrapI, get_concat, set_concat, Int.toNat_natCast, Int.toNat_zero, List.nil_append, Nat.mul_one, decide_eq_true, decide_eq_false, Int.reduceLE, Int.reduceLT, Int.reduceNeg, Bool.false_or, Bool.true_or, Bool.or_false, Bool.or_true, wrapU, Int.reduceAdd, Int.reduceSub, Int.reduceMul, List.append_nil, b2, b6, a56, hth, hroot, hr7, hcell, hu]
        repeat' ((first | refine GK_of (fun h => ?_) (fun h => ?_) | refine CW_of (fun h => ?_) (fun h => ?_) | refine GKT_of (fun h => ?_) (fun h => ?_)) <;> (try simp only [Bool.not_eq_true', Bool.not_eq_false', decide_eq_true_eq, decide_eq_false_iff_not, Bool.and_eq_true, Bool.or_eq_true, Bool.and_eq_false_iff, Bool.or_eq_false_iff, Decidable.not_not] at h) <;> (try simp (disch := first | assumption | omega | (simp only [List.length_cons, List.length_nil, List.length_set, List.length_append] <;> omega) | (simp only [get_mid, get_mid0, List.cons_append, List.append_assoc, List.getElem?_cons_zero, List.getElem?_cons_succ])) only [ek, ↓evW, ↓evQ, evB, evS, evL, List.map, AV.cells, List.all, AV.one, Bool.and_true, Bool.true_and, if_true, ↓thenQ_normal, ↓thenQ_exit, ↓thenQ_ret, ↓blockQ_normal, ↓blockQ_ret, ↓blockQ_exit, ↓CW_true, ↓CW_false, CW_true, CW_false, condT, condF, RQ_some, tupA_one, tupA_two, tupA_nil, Nat.reduceSub, Nat.reduceAdd, Nat.reduceMul, Nat.zero_add, Nat.add_zero, Nat.reduceLeDiff, Nat.reduceEqDiff, eqV, eqAll, fillA, and_self, and_true, true_and, Nat.le_refl, Bool.not_true, Bool.not_false, Bool.false_xor, Bool.true_xor, cond_true, cond_false, List.replicate, if_false, reduceIte, resAll, resA, ne_eq, decide_not, decide_true, decide_false, Int.reduceEq, Bool.not_true, Bool.not_false, not_true_eq_false, not_false_eq_true, cond_bool, cond_int, beq_self_eq_true, Int.reduceBEq, Bool.and_self, Bool.and_false, Bool.false_and, Bool.xor_false, Bool.xor_true, loadN_ldC, ldC_none, ldC_somes, stC_aggs, splice, storeN_stC, stC_int, stC_bool, stC_ptr, stC_nilp, stC_sl, stC_nils, getC_gcO, gcO_cells, W_draw_eq, ↓W_scope, ev_clear, evT, evF, evX, evM, ↓exitQ_normal, ↓exitQ_ret, ↓exitQ_exit, saA_self, saO_self, if_pos, if_neg, wrapI, get_concat, set_concat, Int.toNat_natCast, Int.toNat_zero, List.nil_append, Nat.mul_one, decide_eq_true, decide_eq_false, Int.reduceLE, Int.reduceLT, Int.reduceNeg, Bool.false_or, Bool.true_or, Bool.or_false, Bool.or_true, wrapU, Int.reduceAdd, Int.reduceSub, Int.reduceMul, List.append_nil, b2, b6, a56, hth, hroot, hr7, hcell, hu]))
        all_goals (try exact hMa)
        all_goals (try (exfalso; apply hno; omega))
        all_goals (exfalso; simp only [Bool.not_eq_false', Bool.not_eq_true', Bool.and_eq_true, beq_iff_eq] at *; apply hno; omega)
    · have hno : ¬ okR s ⟨k, a, o, w⟩ := fun h => hat ⟨h.1, h.2.1⟩
      have hb : (decide (0 ≤ a) && decide (a < (s.cells.length : Int))) = false := by
        rw [Bool.and_eq_false_iff, decide_eq_false_iff_not, decide_eq_false_iff_not]; omega
      rw [hb] at hth
      simp only [redoS, if_neg hno, Option.some.injEq] at hr
      subst hr
      simp (disch := first | assumption | omega | (simp only [List.length_cons, List.length_nil, List.length_set, List.length_append] <;> omega) | (simp only [get_mid, get_mid0, List.cons_append, List.append_assoc, List.getElem?_cons_zero, List.getElem?_cons_succ])) only [ek, ↓evW, ↓evQ, evB, evS, evL, List.map, AV.cells, List.all, AV.one, Bool.and_true, Bool.true_and, if_true, ↓thenQ_normal, ↓thenQ_exit, ↓thenQ_ret, ↓blockQ_normal, ↓blockQ_ret, ↓blockQ_exit, ↓CW_true, ↓CW_false, CW_true, CW_false, condT, condF, RQ_some, tupA_one, tupA_two, tupA_nil, Nat.reduceSub, Nat.reduceAdd, Nat.reduceMul, Nat.zero_add, Nat.add_zero, Nat.reduceLeDiff, Nat.reduceEqDiff, eqV, eqAll, fillA, and_self, and_true, true_and, Nat.le_refl, Bool.not_true, Bool.not_false, Bool.false_xor, Bool.true_xor, cond_true, cond_false, List.replicate, if_false, reduceIte, resAll, resA, ne_eq, decide_not, decide_true, decide_false, Int.reduceEq, Bool.not_true, Bool.not_false, not_true_eq_false, not_false_eq_true, cond_bool, cond_int, beq_self_eq_true, Int.reduceBEq, Bool.and_self, Bool.and_false, Bool.false_and, Bool.xor_false, Bool.xor_true, loadN_ldC, ldC_none, ldC_somes, stC_aggs, splice, storeN_stC, stC_int, stC_bool, stC_ptr, stC_nilp, stC_sl, stC_nils, getC_gcO, gcO_cells, W_draw_eq, ↓W_scope, ev_clear, evT, evF, evX, evM, ↓exitQ_normal, ↓exitQ_ret, ↓exitQ_exit, saA_self, saO_self, if_pos, if_neg, wrapI, get_concat, set_concat, Int.toNat_natCast, Int.toNat_zero, List.nil_append, Nat.mul_one, decide_eq_true, decide_eq_false, Int.reduceLE, Int.reduceLT, Int.reduceNeg, Bool.false_or, Bool.true_or, Bool.or_false, Bool.or_true, wrapU, Int.reduceAdd, Int.reduceSub, Int.reduceMul, List.append_nil, b2, b6, a56, hth]
      exact hMa
  · simp only [decide_eq_false_iff_not] at h
    have hxe : x' = es.length := by omega
    subst hxe
    rw [List.drop_length] at hr
    simp only [redoS, Option.some.injEq] at hr
    subst hr
    simp (disch := first | assumption | omega | (simp only [List.length_cons, List.length_nil, List.length_set, List.length_append] <;> omega) | (simp only [get_mid, get_mid0, List.cons_append, List.append_assoc, List.getElem?_cons_zero, List.getElem?_cons_succ])) only [ek, ↓evW, ↓evQ, evB, evS, evL, List.map, AV.cells, List.all, AV.one, Bool.and_true, Bool.true_and, if_true, ↓thenQ_normal, ↓thenQ_exit, ↓thenQ_ret, ↓blockQ_normal, ↓blockQ_ret, ↓blockQ_exit, ↓CW_true, ↓CW_false, CW_true, CW_false, condT, condF, RQ_some, tupA_one, tupA_two, tupA_nil, Nat.reduceSub, Nat.reduceAdd, Nat.reduceMul, Nat.zero_add, Nat.add_zero, Nat.reduceLeDiff, Nat.reduceEqDiff, eqV, eqAll, fillA, and_self, and_true, true_and, Nat.le_refl, Bool.not_true, Bool.not_false, Bool.false_xor, Bool.true_xor, cond_true, cond_false, List.replicate, if_false, reduceIte, resAll, resA, ne_eq, decide_not, decide_true, decide_false, Int.reduceEq, Bool.not_true, Bool.not_false, not_true_eq_false, not_false_eq_true, cond_bool, cond_int, beq_self_eq_true, Int.reduceBEq, Bool.and_self, Bool.and_false, Bool.false_and, Bool.xor_false, Bool.xor_true, loadN_ldC, ldC_none, ldC_somes, stC_aggs, splice, storeN_stC, stC_int, stC_bool, stC_ptr, stC_nilp, stC_sl, stC_nils, getC_gcO, gcO_cells, W_draw_eq, ↓W_scope, ev_clear, evT, evF, evX, evM, ↓exitQ_normal, ↓exitQ_ret, ↓exitQ_exit, saA_self, saO_self, if_pos, if_neg, wrapI, get_concat, set_concat, Int.toNat_natCast, Int.toNat_zero, List.nil_append, Nat.mul_one, decide_eq_true, decide_eq_false, Int.reduceLE, Int.reduceLT, Int.reduceNeg, Bool.false_or, Bool.true_or, Bool.or_false, Bool.or_true, wrapU, Int.reduceAdd, Int.reduceSub, Int.reduceMul, ev_len, hlen]
    exact hM

theorem Cc.memAt {m M : MM} {i : Nat} (hi : i < m.length) {s : MemSt} (h : Cc m i s M) : ∃ k1 k2, m.length ≤ M.length ∧ (∀ j, j < m.length → j ≠ i → M[j]? = m[j]?) ∧ m.length ≤ k1 ∧ m.length ≤ k2 ∧ k1 ≠ k2 ∧ MemAt M i k1 k2 s := by
  obtain ⟨lv, L, rfl, h1, h2⟩ := h
  exact memAt_of hi h1 h2
theorem cc_pl {m : MM} {i : Nat} (s : MemSt) : Cc m i s (m.set i (plM (.mem s) i m.length).1 ++ (plM (.mem s) i m.length).2) :=
  ⟨_, _, rfl, fun R => by have := logAt_pl (m := m) (J := []) (i := i) s R; simpa using this, rfl⟩

theorem redo_fold : Fold concM (unf 0 plM c_cell_Redo) redoF := by
  intro args m v m' hg
  unfold redoF at hg
  split at hg
  case h_2 => cases hg
  rename_i i lv
  split at hg
  case h_2 => cases hg
  rename_i s es hs hes
  split at hg
  case isFalse => cases hg
  rename_i hl
  split at hg
  case h_2 => cases hg
  rename_i r hr
  simp only [Option.some.injEq, Prod.mk.injEq] at hg
  obtain ⟨rfl, rfl⟩ := hg
  have hi : i < m.length := (List.getElem?_eq_some_iff.1 hs).1
  obtain ⟨_, M, hrun, rfl, hM⟩ := redo_walk hi hs (sa_of hes) hl (cc_pl s) hr
  obtain ⟨k1, k2, h1, h2, h3, h4, h5, h6⟩ := hM.memAt hi
  exact fold_mem hi (by simp only [unf, List.getElem?_cons_zero, hs]; exact hrun) rfl h1 h2 h3 h4 h5 h6

theorem redo_of {M : MM} {j : Nat} {s : MemSt} (hM : M[j]? = some (.abs (.mem s))) {wr : Bool} {es : List Acc} {v : AV} (hv : SA M wr es v) (hl : es.length ≤ 1000) {r : MemSt × Nat} (hr : redoS s es = some r) : redoF [.ptr j 0, v] M = some (.int .i64 r.2, M.set j (.abs (.mem r.1))) := by
  simp only [redoF, hM, accsOf_sa hv, if_pos hl, hr]
end Go.Am.F06
