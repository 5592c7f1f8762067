/- Two CAS of one cell: gone through on the abstract machine. -/
import Derived.Test.YtldpldoehjpnaaaXAmKit
import Derived.Test.YtldpldoehjpnaaaXAmLift
import Derived.Test.YtldpldoehjpnaaaXC06
set_option linter.unusedSimpArgs false
set_option linter.unusedVariables false
namespace Go.Am.F06
variable {X : Type}

def worksG : List AV → Option AV
  | [] => some (.bool true)
  | _ => none
theorem works_run : ((c_law06_works (X := X)) [] []).map (·.1) = some (.bool true) := by kernel_rfl
theorem works_lift : Lift (c_law06_works (X := X)) (pureF worksG) := lift_pure (by
  intro args r h
  unfold worksG at h; split at h
  · injection h with h; subst h
    have := works_run (X := X)
    cases h1 : c_law06_works (X := X) [] [] with
    | none => rw [h1] at this; cases this
    | some x =>
      rw [h1] at this
      simp only [Option.map_some, Option.some.injEq] at this
      exact ⟨rfl, rfl, x.2, by rw [← this]⟩
  · cases h)
theorem new1_run : (c_cell_New (X := X)) [.int .i64 1] [] = some (.ptr 1 0, [.cells 1 false [.int .u64 0], .cells 8 false [.int .u64 0, .int .u64 0, .int .u64 0, .int .u64 0, .int .u64 0, .int .u64 0, .nils, .sl 0 0 1 (some 1)]]) := by kernel_rfl

def Gtwice : List (Nat × AFun X) := [(21, c_cell_New), (22, c_cell_Mem_Store), (23, c_cell_Mem_CAS), (24, c_cell_Mem_Load), (25, pureF worksG)]

set_option maxHeartbeats 8000000 in
theorem twice_run (was old a b : Int) : Fn (Gtwice (X := X)) law06_CellTwice [.int .u64 was, .int .u64 old, .int .u64 a, .int .u64 b] [] (fun r _ => r = .bool true) := by
  refine Fn_of rfl ?_
  by_cases h1 : was = old <;> by_cases h2 : a = old
  all_goals (try subst h1)
  all_goals (try subst h2)
  all_goals simp (disch := first | assumption | omega | (simp only [List.length_cons, List.length_nil, List.length_set, List.length_append] <;> omega) | (simp only [get_mid, get_mid0, List.cons_append, List.append_assoc, List.getElem?_cons_zero, List.getElem?_cons_succ])) only [law06_CellTwice, ek, ↓evW, ↓evQ, evB, evS, evL, List.map, AV.cells, List.all, AV.one, Bool.and_true, Bool.true_and, if_true, ↓thenQ_normal, ↓thenQ_exit, ↓thenQ_ret, ↓blockQ_normal, ↓blockQ_ret, ↓blockQ_exit, ↓CW_true, ↓CW_false, CW_true, CW_false, condT, condF, RQ_some, tupA_one, tupA_two, tupA_nil, Nat.reduceSub, Nat.reduceAdd, Nat.reduceMul, Nat.zero_add, Nat.add_zero, Nat.reduceLeDiff, Nat.reduceEqDiff, eqV, eqAll, fillA, and_self, and_true, true_and, Nat.le_refl, Bool.not_true, Bool.not_false, Bool.false_xor, Bool.true_xor, cond_true, cond_false, List.replicate, if_false, reduceIte, resAll, resA, ne_eq, decide_not, decide_true, decide_false, Int.reduceEq, Bool.not_true, Bool.not_false, not_true_eq_false, not_false_eq_true, cond_bool, cond_int, beq_self_eq_true, Int.reduceBEq, Bool.and_self, Bool.and_false, Bool.false_and, Bool.xor_false, Bool.xor_true, loadN_ldC, ldC_none, ldC_somes, stC_aggs, splice, storeN_stC, stC_int, stC_bool, stC_ptr, stC_nilp, stC_sl, stC_nils, getC_gcO, gcO_cells, W_draw_eq, ↓W_scope, ev_clear, evT, evF, evX, evM, ↓exitQ_normal, ↓exitQ_ret, ↓exitQ_exit, saA_self, saO_self, if_pos, if_neg, wrapI, get_concat, set_concat, Int.toNat_natCast, Int.toNat_zero, List.nil_append, Nat.mul_one, decide_eq_true, decide_eq_false, Int.reduceLE, Int.reduceLT, Int.reduceNeg, Bool.false_or, Bool.true_or, Bool.or_false, Bool.or_true, wrapU, Int.reduceAdd, Int.reduceSub, Int.reduceMul, assoc, new1_run, Gtwice]
  all_goals repeat ((first | refine OK_in rfl ?_ | refine OKT_in rfl ?_); simp (disch := first | assumption | omega | (simp only [List.length_cons, List.length_nil, List.length_set, List.length_append] <;> omega) | (simp only [get_mid, get_mid0, List.cons_append, List.append_assoc, List.getElem?_cons_zero, List.getElem?_cons_succ])) only [cell_Mem_Store, cell_Mem_CAS, cell_Mem_Load, cell_Mem_access, cell_Mem_there, cell_Mem_Store_1, cell_Mem_CAS_1, cell_Mem_Load_1, cell_Mem_Add_1, cell_counts_note, cell_Mem_Add, ek, ↓evW, ↓evQ, evB, evS, evL, List.map, AV.cells, List.all, AV.one, Bool.and_true, Bool.true_and, if_true, ↓thenQ_normal, ↓thenQ_exit, ↓thenQ_ret, ↓blockQ_normal, ↓blockQ_ret, ↓blockQ_exit, ↓CW_true, ↓CW_false, CW_true, CW_false, condT, condF, RQ_some, tupA_one, tupA_two, tupA_nil, Nat.reduceSub, Nat.reduceAdd, Nat.reduceMul, Nat.zero_add, Nat.add_zero, Nat.reduceLeDiff, Nat.reduceEqDiff, eqV, eqAll, fillA, and_self, and_true, true_and, Nat.le_refl, Bool.not_true, Bool.not_false, Bool.false_xor, Bool.true_xor, cond_true, cond_false, List.replicate, if_false, reduceIte, resAll, resA, ne_eq, decide_not, decide_true, decide_false, Int.reduceEq, Bool.not_true, Bool.not_false, not_true_eq_false, not_false_eq_true, cond_bool, cond_int, beq_self_eq_true, Int.reduceBEq, Bool.and_self, Bool.and_false, Bool.false_and, Bool.xor_false, Bool.xor_true, loadN_ldC, ldC_none, ldC_somes, stC_aggs, splice, storeN_stC, stC_int, stC_bool, stC_ptr, stC_nilp, stC_sl, stC_nils, getC_gcO, gcO_cells, W_draw_eq, ↓W_scope, ev_clear, evT, evF, evX, evM, ↓exitQ_normal, ↓exitQ_ret, ↓exitQ_exit, saA_self, saO_self, if_pos, if_neg, wrapI, get_concat, set_concat, Int.toNat_natCast, Int.toNat_zero, List.nil_append, Nat.mul_one, decide_eq_true, decide_eq_false, Int.reduceLE, Int.reduceLT, Int.reduceNeg, Bool.false_or, Bool.true_or, Bool.or_false, Bool.or_true, wrapU, Int.reduceAdd, Int.reduceSub, Int.reduceMul, assoc, KO, evA, appendA, lenA, rowOf, repeatL, List.flatten_cons, List.flatten_nil, List.append_nil, pureF, worksG])

def twiceG : List AV → Option AV
  | [.int .u64 _, .int .u64 _, .int .u64 _, .int .u64 _] => some (.bool true)
  | _ => none
theorem twice_lift : Lift (amFunc (Gtwice (X := X)) law06_CellTwice) (pureF twiceG) := lift_pure (by
  intro args r h
  unfold twiceG at h; split at h
  · injection h with h; subst h
    obtain ⟨r, m, h1, rfl⟩ := twice_run (X := X) _ _ _ _
    exact ⟨rfl, rfl, m, h1⟩
  · cases h)
end Go.Am.F06
