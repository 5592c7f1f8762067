/- The methods of cell.Mem that answer from cells of their own; a new memory. -/
import Derived.Test.YtldpldoehjpnaaaXN06
set_option linter.unusedSimpArgs false
set_option linter.unusedVariables false
namespace Go.Am.F06

def countAsk (s : MemSt) : List AV → Option AV
  | [] => some (.agg [.int .u64 s.loads, .int .u64 s.stores, .int .u64 s.swaps, .int .u64 s.fails, .int .u64 s.adds])
  | _ => none
set_option maxHeartbeats 4000000 in
theorem count_fold : Fold concM (unf 0 plM c_cell_Mem_Count) (memF fun s rest => (countAsk s rest).map fun v => (v, s)) := ask_fold fun m i rest s v hi ha => by
  unfold countAsk at ha
  split at ha
  · injection ha with ha; subst ha
    refine ⟨rfl, [.cells 5 false [.int .u64 s.loads, .int .u64 s.stores, .int .u64 s.swaps, .int .u64 s.fails, .int .u64 s.adds]], Fn_eq ?_⟩
    refine Fn_of rfl ?_
    have hr := ms_root hi (m := m)
    have hpl1 : (plM (.mem s) i m.length).1 = .cells 8 false (rootL s (lvA (m.length + 1) s) (cvA i m.length s)) := rfl
    have hp := pl_len (m := m) (i := i) s
    have hk : (m.set i (plM (.mem s) i m.length).1 ++ (plM (.mem s) i m.length).2).length = m.length + 2 := by simp [hp]
    rw [hpl1] at hk
    have hgs : ∀ R (c : Chunk Ob), (m.set i R ++ ((plM (.mem s) i m.length).2 ++ [c]))[m.length + 2]? = some c := fun R c => by rw [ms_mid]; rfl
    have hss : ∀ R (c c' : Chunk Ob), (m.set i R ++ ((plM (.mem s) i m.length).2 ++ [c])).set (m.length + 2) c' = m.set i R ++ ((plM (.mem s) i m.length).2 ++ [c']) := fun R c c' => by rw [ms_setk]; rfl
    simp (disch := first | assumption | omega | (simp only [List.length_cons, List.length_nil, List.length_set, List.length_append] <;> omega) | (simp only [get_mid, get_mid0, List.cons_append, List.append_assoc, List.getElem?_cons_zero, List.getElem?_cons_succ])) only [cell_Mem_Count, ek, ↓evW, ↓evQ, evB, evS, evL, List.map, AV.cells, List.all, AV.one, Bool.and_true, Bool.true_and, if_true, ↓thenQ_normal, ↓thenQ_exit, ↓thenQ_ret, ↓blockQ_normal, ↓blockQ_ret, ↓blockQ_exit, ↓CW_true, ↓CW_false, CW_true, CW_false, condT, condF, RQ_some, tupA_one, tupA_two, tupA_nil, Nat.reduceSub, Nat.reduceAdd, Nat.reduceMul, Nat.zero_add, Nat.add_zero, Nat.reduceLeDiff, Nat.reduceEqDiff, eqV, eqAll, fillA, and_self, and_true, true_and, Nat.le_refl, Bool.not_true, Bool.not_false, Bool.false_xor, Bool.true_xor, cond_true, cond_false, List.replicate, if_false, reduceIte, resAll, resA, ne_eq, decide_not, decide_true, decide_false, Int.reduceEq, Bool.not_true, Bool.not_false, not_true_eq_false, not_false_eq_true, cond_bool, cond_int, beq_self_eq_true, Int.reduceBEq, Bool.and_self, Bool.and_false, Bool.false_and, Bool.xor_false, Bool.xor_true, loadN_ldC, ldC_none, ldC_somes, stC_aggs, splice, storeN_stC, stC_int, stC_bool, stC_ptr, stC_nilp, stC_sl, stC_nils, getC_gcO, gcO_cells, W_draw_eq, ↓W_scope, ev_clear, evT, evF, evX, evM, ↓exitQ_normal, ↓exitQ_ret, ↓exitQ_exit, saA_self, saO_self, if_pos, if_neg, wrapI, get_concat, set_concat, Int.toNat_natCast, Int.toNat_zero, List.nil_append, Nat.mul_one, decide_eq_true, decide_eq_false, Int.reduceLE, Int.reduceLT, Int.reduceNeg, Bool.false_or, Bool.true_or, Bool.or_false, Bool.or_true, wrapU, Int.reduceAdd, Int.reduceSub, Int.reduceMul, List.append_assoc, List.length_append, List.length_set, hp, hpl1, hr, hgs, hss, rootL]
  · cases ha
def lastAsk (s : MemSt) : List AV → Option AV
  | [] => if s.log.length ≤ 65536 then some (.tup [.agg (accC (s.log.getLast?.getD ⟨0, 0, 0, 0⟩)), .bool (decide (s.log ≠ []))]) else none
  | _ => none

theorem accs_at (a : List Acc) (e : Acc) (b : List Acc) : (((a ++ e :: b).flatMap accC).drop (a.length * 4)).take 4 = accC e := by
  rw [accs_drop, List.flatMap_cons, List.take_append_of_le_length (by simp [accC])]; rfl

set_option maxHeartbeats 4000000 in
theorem last_fold : Fold concM (unf 0 plM c_cell_Mem_Last) (memF fun s rest => (lastAsk s rest).map fun v => (v, s)) := ask_fold fun m i rest s v hi ha => by
  unfold lastAsk at ha
  split at ha
  case h_2 => cases ha
  split at ha
  case isFalse => cases ha
  rename_i hn
  injection ha with ha; subst ha
  have hr := ms_root hi (m := m)
  have hpl1 : (plM (.mem s) i m.length).1 = .cells 8 false (rootL s (lvA (m.length + 1) s) (cvA i m.length s)) := rfl
  have hp := pl_len (m := m) (i := i) s
  have hgs : ∀ R (c : Chunk Ob), (m.set i R ++ ((plM (.mem s) i m.length).2 ++ [c]))[m.length + 2]? = some c := fun R c => by rw [ms_mid]; rfl
  have hss : ∀ R (c c' : Chunk Ob), (m.set i R ++ ((plM (.mem s) i m.length).2 ++ [c])).set (m.length + 2) c' = m.set i R ++ ((plM (.mem s) i m.length).2 ++ [c']) := fun R c c' => by rw [ms_setk]; rfl
  have hr6 : ∀ (s : MemSt) lv cv, (rootL s lv cv)[6]? = some lv := fun _ _ _ => rfl
  by_cases h0 : s.log = []
  · have hlv : lvA (m.length + 1) s = .nils := if_pos h0
    have h1 : s.log.getLast?.getD ⟨0, 0, 0, 0⟩ = ⟨0, 0, 0, 0⟩ := by rw [h0]; rfl
    have h2 : decide (s.log ≠ []) = false := by simp [h0]
    rw [h1, h2]
    refine ⟨rfl, [.cells 4 false (accC ⟨0, 0, 0, 0⟩)], Fn_eq ?_⟩
    refine Fn_of rfl ?_
    simp (disch := first | assumption | omega | (simp only [List.length_cons, List.length_nil, List.length_set, List.length_append] <;> omega) | (simp only [get_mid, get_mid0, List.cons_append, List.append_assoc, List.getElem?_cons_zero, List.getElem?_cons_succ])) only [cell_Mem_Last, ek, ↓evW, ↓evQ, evB, evS, evL, List.map, AV.cells, List.all, AV.one, Bool.and_true, Bool.true_and, if_true, ↓thenQ_normal, ↓thenQ_exit, ↓thenQ_ret, ↓blockQ_normal, ↓blockQ_ret, ↓blockQ_exit, ↓CW_true, ↓CW_false, CW_true, CW_false, condT, condF, RQ_some, tupA_one, tupA_two, tupA_nil, Nat.reduceSub, Nat.reduceAdd, Nat.reduceMul, Nat.zero_add, Nat.add_zero, Nat.reduceLeDiff, Nat.reduceEqDiff, eqV, eqAll, fillA, and_self, and_true, true_and, Nat.le_refl, Bool.not_true, Bool.not_false, Bool.false_xor, Bool.true_xor, cond_true, cond_false, List.replicate, if_false, reduceIte, resAll, resA, ne_eq, decide_not, decide_true, decide_false, Int.reduceEq, Bool.not_true, Bool.not_false, not_true_eq_false, not_false_eq_true, cond_bool, cond_int, beq_self_eq_true, Int.reduceBEq, Bool.and_self, Bool.and_false, Bool.false_and, Bool.xor_false, Bool.xor_true, loadN_ldC, ldC_none, ldC_somes, stC_aggs, splice, storeN_stC, stC_int, stC_bool, stC_ptr, stC_nilp, stC_sl, stC_nils, getC_gcO, gcO_cells, W_draw_eq, ↓W_scope, ev_clear, evT, evF, evX, evM, ↓exitQ_normal, ↓exitQ_ret, ↓exitQ_exit, saA_self, saO_self, if_pos, if_neg, wrapI, get_concat, set_concat, Int.toNat_natCast, Int.toNat_zero, List.nil_append, Nat.mul_one, decide_eq_true, decide_eq_false, Int.reduceLE, Int.reduceLT, Int.reduceNeg, Bool.false_or, Bool.true_or, Bool.or_false, Bool.or_true, wrapU, Int.reduceAdd, Int.reduceSub, Int.reduceMul, List.append_assoc, List.length_append, List.length_set, hp, hpl1, hr, hgs, hss, hr6, hlv, ev_len, lenA, accC]
  · have hlv : lvA (m.length + 1) s = .sl (m.length + 1) (s.pre.length * 4) s.log.length none := if_neg h0
    obtain ⟨l0, e, hl⟩ : ∃ l0 e, s.log = l0 ++ [e] := ⟨s.log.dropLast, s.log.getLast h0, (List.dropLast_concat_getLast h0).symm⟩
    have h1 : s.log.getLast?.getD ⟨0, 0, 0, 0⟩ = e := by rw [hl]; simp
    have h2 : decide (s.log ≠ []) = true := by simp [h0]
    have hll : s.log.length = l0.length + 1 := by rw [hl]; simp
    have hat := accs_at (s.pre ++ l0) e []
    rw [List.append_assoc, ← hl, List.length_append, Nat.add_mul] at hat
    have hfl : ((s.pre ++ s.log).flatMap accC).length = s.pre.length * 4 + l0.length * 4 + 4 := by rw [accs_len, List.length_append, hll]; omega
    have ht : ((l0.length + 1 : Nat) : Int) - 1 = (l0.length : Int) := by omega
    have hw : IntKind.i64.wrap (l0.length : Int) = l0.length := wrapI (by omega) (by omega)
    have hlt : (0 : Int) ≤ l0.length ∧ (l0.length : Int) < ((l0.length + 1 : Nat) : Int) := by omega
    have hal : (accC e).length = 4 := rfl
    have hone : (accC e).all AV.one = true := rfl
    have hae : (accC e).take 4 = accC e := rfl
    have hgl : ∀ R (c : Chunk Ob), (m.set i R ++ ((plM (.mem s) i m.length).2 ++ [c]))[m.length + 1]? = some (.cells 4 false ((s.pre ++ s.log).flatMap accC)) := fun R c => by rw [ms_mid]; rfl
    rw [h1, h2]
    refine ⟨rfl, [.cells 4 false (accC e)], Fn_eq ?_⟩
    refine Fn_of rfl ?_
    simp (disch := first | assumption | omega | (simp only [List.length_cons, List.length_nil, List.length_set, List.length_append] <;> omega) | (simp only [get_mid, get_mid0, List.cons_append, List.append_assoc, List.getElem?_cons_zero, List.getElem?_cons_succ])) only [cell_Mem_Last, ek, ↓evW, ↓evQ, evB, evS, evL, List.map, AV.cells, List.all, AV.one, Bool.and_true, Bool.true_and, if_true, ↓thenQ_normal, ↓thenQ_exit, ↓thenQ_ret, ↓blockQ_normal, ↓blockQ_ret, ↓blockQ_exit, ↓CW_true, ↓CW_false, CW_true, CW_false, condT, condF, RQ_some, tupA_one, tupA_two, tupA_nil, Nat.reduceSub, Nat.reduceAdd, Nat.reduceMul, Nat.zero_add, Nat.add_zero, Nat.reduceLeDiff, Nat.reduceEqDiff, eqV, eqAll, fillA, and_self, and_true, true_and, Nat.le_refl, Bool.not_true, Bool.not_false, Bool.false_xor, Bool.true_xor, cond_true, cond_false, List.replicate, if_false, reduceIte, resAll, resA, ne_eq, decide_not, decide_true, decide_false, Int.reduceEq, Bool.not_true, Bool.not_false, not_true_eq_false, not_false_eq_true, cond_bool, cond_int, beq_self_eq_true, Int.reduceBEq, Bool.and_self, Bool.and_false, Bool.false_and, Bool.xor_false, Bool.xor_true, loadN_ldC, ldC_none, ldC_somes, stC_aggs, splice, storeN_stC, stC_int, stC_bool, stC_ptr, stC_nilp, stC_sl, stC_nils, getC_gcO, gcO_cells, W_draw_eq, ↓W_scope, ev_clear, evT, evF, evX, evM, ↓exitQ_normal, ↓exitQ_ret, ↓exitQ_exit, saA_self, saO_self, if_pos, if_neg, wrapI, get_concat, set_concat, Int.toNat_natCast, Int.toNat_zero, List.nil_append, Nat.mul_one, decide_eq_true, decide_eq_false, Int.reduceLE, Int.reduceLT, Int.reduceNeg, Bool.false_or, Bool.true_or, Bool.or_false, Bool.or_true, wrapU, Int.reduceAdd, Int.reduceSub, Int.reduceMul, List.append_assoc, List.length_append, List.length_set, hp, hpl1, hr, hgs, hss, hr6, hlv, ev_len, lenA, hll, hgl, ht, hw, hlt, hfl, hat, hal, hone, hae, List.append_nil]

def newSt (n : Int) : MemSt := { cells := List.replicate (max 0 (min n 65536)).toNat 0, ck := true, ops := 0, loads := 0, stores := 0, swaps := 0, fails := 0, adds := 0, log := [], pre := [] }
def newF : AFun Ob := fun args m => match args with
  | [.int .i64 n] => some (.ptr m.length 0, m ++ [.abs (.mem (newSt n))])
  | _ => none

set_option maxHeartbeats 4000000 in
theorem new_fold : Fold concM c_cell_New newF := by
  intro args m v m' hg
  unfold newF at hg
  split at hg
  case h_2 => cases hg
  rename_i n
  simp only [Option.some.injEq, Prod.mk.injEq] at hg
  obtain ⟨rfl, rfl⟩ := hg
  have hrun : Fn [] cell_New [.int .i64 n] m (fun v M => v = .ptr (m.length + 1) 0 ∧ M = m ++ [.cells 1 false (uC (newSt n).cells), .cells 8 false (rootL (newSt n) .nils (.sl m.length 0 (newSt n).cells.length (some (newSt n).cells.length)))]) := by
    refine Fn_of rfl ?_
    have hK : (if (if 65536 < n then 65536 else n) > 0 then if 65536 < n then 65536 else n else 0) = max 0 (min n 65536) := by split <;> split <;> omega
    have hk0 : 0 ≤ max 0 (min n 65536) ∧ max 0 (min n 65536) ≤ 65536 := by omega
    have hrep : repeatL (max 0 (min n 65536)).toNat [AV.int .u64 0] = uC (newSt n).cells := by simp [repeatL, uC, newSt]
    have hcl : (newSt n).cells.length = (max 0 (min n 65536)).toNat := by simp [newSt]
    have hmk : amOp [] (.make 1 8 [.int .u64 0]) [.int .i64 (max 0 (min n 65536)), .int .i64 (max 0 (min n 65536))] m = some (.sl m.length 0 (max 0 (min n 65536)).toNat (some (max 0 (min n 65536)).toNat), m ++ [.cells 1 false (uC (newSt n).cells)]) := by
      simp only [amOp, hrep]
      rw [if_pos (by omega)]
    simp (disch := first | assumption | omega | (simp only [List.length_cons, List.length_nil, List.length_set, List.length_append] <;> omega) | (simp only [get_mid, get_mid0, List.cons_append, List.append_assoc, List.getElem?_cons_zero, List.getElem?_cons_succ])) only [cell_New, ek, ↓evW, ↓evQ, evB, evS, evL, List.map, AV.cells, List.all, AV.one, Bool.and_true, Bool.true_and, if_true, ↓thenQ_normal, ↓thenQ_exit, ↓thenQ_ret, ↓blockQ_normal, ↓blockQ_ret, ↓blockQ_exit, ↓CW_true, ↓CW_false, CW_true, CW_false, condT, condF, RQ_some, tupA_one, tupA_two, tupA_nil, Nat.reduceSub, Nat.reduceAdd, Nat.reduceMul, Nat.zero_add, Nat.add_zero, Nat.reduceLeDiff, Nat.reduceEqDiff, eqV, eqAll, fillA, and_self, and_true, true_and, Nat.le_refl, Bool.not_true, Bool.not_false, Bool.false_xor, Bool.true_xor, cond_true, cond_false, List.replicate, if_false, reduceIte, resAll, resA, ne_eq, decide_not, decide_true, decide_false, Int.reduceEq, Bool.not_true, Bool.not_false, not_true_eq_false, not_false_eq_true, cond_bool, cond_int, beq_self_eq_true, Int.reduceBEq, Bool.and_self, Bool.and_false, Bool.false_and, Bool.xor_false, Bool.xor_true, loadN_ldC, ldC_none, ldC_somes, stC_aggs, splice, storeN_stC, stC_int, stC_bool, stC_ptr, stC_nilp, stC_sl, stC_nils, getC_gcO, gcO_cells, W_draw_eq, ↓W_scope, ev_clear, evT, evF, evX, evM, ↓exitQ_normal, ↓exitQ_ret, ↓exitQ_exit, saA_self, saO_self, if_pos, if_neg, wrapI, get_concat, set_concat, Int.toNat_natCast, Int.toNat_zero, List.nil_append, Nat.mul_one, decide_eq_true, decide_eq_false, Int.reduceLE, Int.reduceLT, Int.reduceNeg, Bool.false_or, Bool.true_or, Bool.or_false, Bool.or_true, wrapU, Int.reduceAdd, Int.reduceSub, Int.reduceMul, List.append_assoc, List.length_append, get_mid, get_mid0, set_mid, set_mid0, hK, hmk, hcl, rootL, newSt]
    simp
  obtain ⟨_, _, h1, rfl, rfl⟩ := hrun
  refine fold_new (q := m.length + 1) (k1 := m.length) (k2 := m.length + 2) h1 (by simp [AV.ren, rhoN_q]) (by omega) (by omega) (by omega) (fun j hj => List.getElem?_append_left hj) (by omega) (by omega) (by omega) ⟨?_, fun _ => ?_, fun h => absurd rfl h⟩
  · by_cases h0 : (newSt n).cells = []
    · refine ⟨_, by rw [get_mid]; rfl, .inr ⟨h0, m.length, 0, ?_⟩⟩
      rw [h0]; rfl
    · refine ⟨_, by rw [get_mid]; rfl, .inl ?_⟩
      rw [cvA, if_neg h0]; rfl
  · rw [get_mid0]; rfl
end Go.Am.F06
