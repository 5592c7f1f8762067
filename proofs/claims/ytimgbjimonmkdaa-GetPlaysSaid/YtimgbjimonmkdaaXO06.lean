import Derived.Test.YtimgbjimonmkdaaXN06
set_option linter.unusedSimpArgs false
set_option linter.unusedVariables false
namespace Go.Am.F06
def newSt (n : Int) : MemSt := { cells := List.replicate (max 0 (min n 65536)).toNat 0, ck := true, ops := 0, loads := 0, stores := 0, swaps := 0, fails := 0, adds := 0, log := [], pre := [] }
def newF : AFun Ob := fun args m => match args with
  | [.int .i64 n] => some (.ptr m.length 0, m ++ [.abs (.mem (newSt n))])
  | _ => none
set_option maxHeartbeats 4000000 in
theorem new_fold : Fold concM c_cell_New newF := by
  intro args m v m' hg
  unfold newF at hg
  split at hg
  case h_2 => cases hg
  rename_i n
  simp only [Option.some.injEq, Prod.mk.injEq] at hg
  obtain ⟨rfl, rfl⟩ := hg
  have hrun : Fn [] cell_New [.int .i64 n] m (fun v M => v = .ptr (m.length + 1) 0 ∧ M = m ++ [.cells 1 false (uC (newSt n).cells), .cells 8 false (rootL (newSt n) .nils (.sl m.length 0 (newSt n).cells.length (some (newSt n).cells.length)))]) := by
    refine Fn_of rfl ?_
    have hK : (if (if 65536 < n then 65536 else n) > 0 then if 65536 < n then 65536 else n else 0) = max 0 (min n 65536) := by split <;> split <;> omega
    have hk0 : 0 ≤ max 0 (min n 65536) ∧ max 0 (min n 65536) ≤ 65536 := by omega
    have hrep : repeatL (max 0 (min n 65536)).toNat [AV.int .u64 0] = uC (newSt n).cells := by simp [repeatL, uC, newSt]
    have hcl : (newSt n).cells.length = (max 0 (min n 65536)).toNat := by simp [newSt]
    have hmk : amOp [] (.make 1 8 [.int .u64 0]) [.int .i64 (max 0 (min n 65536)), .int .i64 (max 0 (min n 65536))] m = some (.sl m.length 0 (max 0 (min n 65536)).toNat (some (max 0 (min n 65536)).toNat), m ++ [.cells 1 false (uC (newSt n).cells)]) := by
      simp only [amOp, hrep]
      rw [if_pos (by omega)]
    simp (disch := first | assumption | omega | (simp only [List.length_cons, List.length_nil, List.length_set, List.length_append] <;> omega) | (simp only [get_mid, get_mid0, List.cons_append, List.append_assoc, List.getElem?_cons_zero, List.getElem?_cons_succ])) only [cell_New, ek, ↓evW, ↓evQ, evB, evS, evL, List.map, AV.cells, List.all, AV.one, Bool.and_true, Bool.true_and, if_true, ↓thenQ_normal, ↓thenQ_exit, ↓thenQ_ret, ↓blockQ_normal, ↓blockQ_ret, ↓blockQ_exit, ↓CW_true, ↓CW_false, CW_true, CW_false, condT, condF, RQ_some, tupA_one, tupA_two, tupA_nil, Nat.reduceSub, Nat.reduceAdd, Nat.reduceMul, Nat.zero_add, Nat.add_zero, Nat.reduceLeDiff, Nat.reduceEqDiff, eqV, eqAll, fillA, and_self, and_true, true_and, Nat.le_refl, Bool.not_true, Bool.not_false, Bool.false_xor, Bool.true_xor, cond_true, cond_false, List.replicate, if_false, reduceIte, resAll, resA, ne_eq, decide_not, decide_true, decide_false, Int.reduceEq, Bool.not_true, Bool.not_false, not_true_eq_false, not_false_eq_true, cond_bool, cond_int, beq_self_eq_true, Int.reduceBEq, Bool.and_self, Bool.and_false, Bool.false_and, Bool.xor_false, Bool.xor_true, loadN_ldC, ldC_none, ldC_somes, stC_aggs, splice, storeN_stC, stC_int, stC_bool, stC_ptr, stC_nilp, stC_sl, stC_nils, getC_gcO, gcO_cells, W_draw_eq, ↓W_scope, ev_clear, evT, evF, evX, evM, ↓exitQ_normal, ↓exitQ_ret, ↓exitQ_exit, saA_self, saO_self, if_pos, if_neg, wrapI, get_concat, set_concat, Int.toNat_natCast, Int.toNat_zero, List.nil_append, Nat.mul_one, decide_eq_true, decide_eq_false, Int.reduceLE, Int.reduceLT, Int.reduceNeg, Bool.false_or, Bool.true_or, Bool.or_false, Bool.or_true, wrapU, Int.reduceAdd, Int.reduceSub, Int.reduceMul, List.append_assoc, List.length_append, get_mid, get_mid0, set_mid, set_mid0, hK, hmk, hcl, rootL, newSt]
    simp
  obtain ⟨_, _, h1, rfl, rfl⟩ := hrun
  refine fold_new (q := m.length + 1) (k1 := m.length) (k2 := m.length + 2) h1 (by simp [AV.ren, rhoN_q]) (by omega) (by omega) (by omega) (fun j hj => List.getElem?_append_left hj) (by omega) (by omega) (by omega) ⟨?_, fun _ => ?_, fun h => absurd rfl h⟩
  · by_cases h0 : (newSt n).cells = []
    · refine ⟨_, by rw [get_mid]; rfl, .inr ⟨h0, m.length, 0, ?_⟩⟩
      rw [h0]; rfl
    · refine ⟨_, by rw [get_mid]; rfl, .inl ?_⟩
      rw [cvA, if_neg h0]; rfl
  · rw [get_mid0]; rfl
end Go.Am.F06
