import Derived.Test.YtgfddegdjdeeoaaXG13
set_option linter.unusedSimpArgs false
set_option linter.unusedVariables false
section
namespace Go.Am.F06
def memNF (step : MemSt → List AV → Option ((Nat → AV) × MemSt × Nat × List AV)) : AFun Ob := fun args m =>
  match args with
  | .ptr i 0 :: rest => match m[i]? with
    | some (.abs (.mem s)) => match step s rest with
      | some (mk, s', sz, L) => some (mk m.length, m.set i (.abs (.mem s')) ++ [.cells sz false L])
      | none => none
    | _ => none
  | _ => none
theorem memN_fold {f : AFun Ob} {step : MemSt → List AV → Option ((Nat → AV) × MemSt × Nat × List AV)} (h : ∀ (m : MM) (i : Nat) (rest : List AV) (s s' : MemSt) (mk : Nat → AV) (sz : Nat) (L : List AV), i < m.length → step s rest = some (mk, s', sz, L) →
    (∀ ρ, AV.renL ρ L = some L) ∧ ∃ v0 mh k1 k2 q, f (.ptr i 0 :: rest) (m.set i (plM (.mem s) i m.length).1 ++ (plM (.mem s) i m.length).2) = some (v0, mh) ∧ AV.ren (rhoN m.length q) v0 = some (mk m.length) ∧ m.length ≤ q ∧ q ≠ k1 ∧ q ≠ k2 ∧ mh[q]? = some (.cells sz false L) ∧
      m.length ≤ mh.length ∧ (∀ j, j < m.length → j ≠ i → mh[j]? = m[j]?) ∧ m.length ≤ k1 ∧ m.length ≤ k2 ∧ k1 ≠ k2 ∧ MemAt mh i k1 k2 s') :
    Fold concM (unf 0 plM f) (memNF step) := by
  intro args m v m' hg
  unfold memNF at hg
  split at hg
  case h_2 => cases hg
  rename_i i rest
  split at hg
  case h_2 => cases hg
  rename_i s hs
  split at hg
  case h_2 => cases hg
  rename_i mk s' sz L hst
  simp only [Option.some.injEq, Prod.mk.injEq] at hg
  obtain ⟨rfl, rfl⟩ := hg
  have hi : i < m.length := (List.getElem?_eq_some_iff.1 hs).1
  obtain ⟨hL, v0, mh, k1, k2, q, h1, hv, hq, hq1, hq2, hqc, h2, h3, h4, h5, h6, h7⟩ := h m i rest s s' mk sz L hi hst
  exact fold_memN hi (by simp only [unf, List.getElem?_cons_zero, hs]; exact h1) hv hq hq1 hq2 hqc hL h3 h4 h5 h6 h7
set_option maxHeartbeats 4000000 in
theorem clone_nil {M : MM} {q o : Nat} {cap : Option Nat} : c_slices_Clone_uint64 [.sl q o 0 cap] M = some (.sl M.length 0 0 (some 0), M ++ [.cells 1 false []]) := by
  refine Fn_eq (Fn_of rfl ?_)
  have hlit : ∀ M : MM, amOp [] (.lit 0 1 [.int .u64 0] []) [] M = some (.sl M.length 0 0 (some 0), M ++ [.cells 1 false []]) := fun M => rfl
  have ha : ∀ M2 : MM, appendA 1 8 (.sl M.length 0 0 (some 0)) (.sl q o 0 cap) M2 = some (.sl M.length 0 0 (some 0), M2) := fun M2 => by simp [appendA, lenA, rowOf]
  simp (disch := first | assumption | omega | (simp only [List.length_cons, List.length_nil, List.length_set, List.length_append] <;> omega) | (simp only [get_mid, get_mid0, List.cons_append, List.append_assoc, List.getElem?_cons_zero, List.getElem?_cons_succ])) only [slices_Clone_uint64, ek, ↓evW, ↓evQ, evB, evS, evL, List.map, AV.cells, List.all, AV.one, Bool.and_true, Bool.true_and, if_true, ↓thenQ_normal, ↓thenQ_exit, ↓thenQ_ret, ↓blockQ_normal, ↓blockQ_ret, ↓blockQ_exit, ↓CW_true, ↓CW_false, CW_true, CW_false, condT, condF, RQ_some, tupA_one, tupA_two, tupA_nil, Nat.reduceSub, Nat.reduceAdd, Nat.reduceMul, Nat.zero_add, Nat.add_zero, Nat.reduceLeDiff, Nat.reduceEqDiff, eqV, eqAll, fillA, and_self, and_true, true_and, Nat.le_refl, Bool.not_true, Bool.not_false, Bool.false_xor, Bool.true_xor, cond_true, cond_false, List.replicate, if_false, reduceIte, resAll, resA, ne_eq, decide_not, decide_true, decide_false, Int.reduceEq, Bool.not_true, Bool.not_false, not_true_eq_false, not_false_eq_true, cond_bool, cond_int, beq_self_eq_true, Int.reduceBEq, Bool.and_self, Bool.and_false, Bool.false_and, Bool.xor_false, Bool.xor_true, loadN_ldC, ldC_none, ldC_somes, stC_aggs, splice, storeN_stC, stC_int, stC_bool, stC_ptr, stC_nilp, stC_sl, stC_nils, getC_gcO, gcO_cells, W_draw_eq, ↓W_scope, ev_clear, evT, evF, evX, evM, ↓exitQ_normal, ↓exitQ_ret, ↓exitQ_exit, saA_self, saO_self, if_pos, if_neg, wrapI, get_concat, set_concat, Int.toNat_natCast, Int.toNat_zero, List.nil_append, Nat.mul_one, decide_eq_true, decide_eq_false, Int.reduceLE, Int.reduceLT, Int.reduceNeg, Bool.false_or, Bool.true_or, Bool.or_false, Bool.or_true, wrapU, Int.reduceAdd, Int.reduceSub, Int.reduceMul, hlit, evA, ha]
set_option maxHeartbeats 4000000 in
theorem clone_run {M : MM} {q : Nat} {cap : Option Nat} {xs : List Int} (hq : M[q]? = some (.cells 1 false (uC xs))) (hx : xs ≠ []) (hn : xs.length ≤ 65536) :
    c_slices_Clone_uint64 [.sl q 0 xs.length cap] M = some (.sl (M.length + 1) 0 xs.length none, M ++ [.cells 1 false [], .cells 1 false (uC xs)]) := by
  refine Fn_eq (Fn_of rfl ?_)
  have hlit : ∀ M : MM, amOp [] (.lit 0 1 [.int .u64 0] []) [] M = some (.sl M.length 0 0 (some 0), M ++ [.cells 1 false []]) := fun M => rfl
  have h0 : xs.length ≠ 0 := fun h => hx (List.length_eq_zero_iff.1 h)
  have hul : (uC xs).length = xs.length := by simp [uC]
  have hone : (uC xs).all AV.one = true := by simp [uC, AV.one]
  have hq' : (M ++ [Chunk.cells 1 false []])[q]? = some (.cells 1 false (uC xs)) := by rw [List.getElem?_append_left (List.getElem?_eq_some_iff.1 hq).1]; exact hq
  have ha : appendA 1 8 (.sl M.length 0 0 (some 0)) (.sl q 0 xs.length cap) (M ++ [Chunk.cells 1 false []]) = some (.sl (M.length + 1) 0 xs.length none, M ++ [.cells 1 false [], .cells 1 false (uC xs)]) := by
    have hrow : rowOf (M ++ [Chunk.cells 1 false []]) 1 (.sl q 0 xs.length cap) = some (uC xs) := by
      simp only [rowOf, getC, hq']
      rw [if_neg h0, if_pos (by omega), List.drop_zero, List.take_of_length_le (by omega)]
    simp only [appendA, lenA, hrow]
    rw [if_neg h0, if_neg (by omega)]
    simp only [rowOf, if_true, List.nil_append]
    rw [if_pos ⟨by omega, by omega, hone⟩]
    simp
  simp (disch := first | assumption | omega | (simp only [List.length_cons, List.length_nil, List.length_set, List.length_append] <;> omega) | (simp only [get_mid, get_mid0, List.cons_append, List.append_assoc, List.getElem?_cons_zero, List.getElem?_cons_succ])) only [slices_Clone_uint64, ek, ↓evW, ↓evQ, evB, evS, evL, List.map, AV.cells, List.all, AV.one, Bool.and_true, Bool.true_and, if_true, ↓thenQ_normal, ↓thenQ_exit, ↓thenQ_ret, ↓blockQ_normal, ↓blockQ_ret, ↓blockQ_exit, ↓CW_true, ↓CW_false, CW_true, CW_false, condT, condF, RQ_some, tupA_one, tupA_two, tupA_nil, Nat.reduceSub, Nat.reduceAdd, Nat.reduceMul, Nat.zero_add, Nat.add_zero, Nat.reduceLeDiff, Nat.reduceEqDiff, eqV, eqAll, fillA, and_self, and_true, true_and, Nat.le_refl, Bool.not_true, Bool.not_false, Bool.false_xor, Bool.true_xor, cond_true, cond_false, List.replicate, if_false, reduceIte, resAll, resA, ne_eq, decide_not, decide_true, decide_false, Int.reduceEq, Bool.not_true, Bool.not_false, not_true_eq_false, not_false_eq_true, cond_bool, cond_int, beq_self_eq_true, Int.reduceBEq, Bool.and_self, Bool.and_false, Bool.false_and, Bool.xor_false, Bool.xor_true, loadN_ldC, ldC_none, ldC_somes, stC_aggs, splice, storeN_stC, stC_int, stC_bool, stC_ptr, stC_nilp, stC_sl, stC_nils, getC_gcO, gcO_cells, W_draw_eq, ↓W_scope, ev_clear, evT, evF, evX, evM, ↓exitQ_normal, ↓exitQ_ret, ↓exitQ_exit, saA_self, saO_self, if_pos, if_neg, wrapI, get_concat, set_concat, Int.toNat_natCast, Int.toNat_zero, List.nil_append, Nat.mul_one, decide_eq_true, decide_eq_false, Int.reduceLE, Int.reduceLT, Int.reduceNeg, Bool.false_or, Bool.true_or, Bool.or_false, Bool.or_true, wrapU, Int.reduceAdd, Int.reduceSub, Int.reduceMul, hlit, evA, ha]
theorem rhoN_q {n q : Nat} (h : n ≤ q) : rhoN n q q = some n := by unfold rhoN; rw [if_neg (by omega), if_pos rfl]
def allS (s : MemSt) : List AV → Option ((Nat → AV) × MemSt × Nat × List AV)
  | [] => if s.cells.length ≤ 65536 then some (fun n => if s.cells = [] then .sl n 0 0 (some 0) else .sl n 0 s.cells.length none, s, 1, uC s.cells) else none
  | _ => none
set_option maxHeartbeats 4000000 in
theorem all_fold : Fold concM (unf 0 plM c_cell_Mem_All) (memNF allS) := memN_fold fun m i rest s s' mk sz L hi hst => by
  unfold allS at hst
  split at hst
  case h_2 => cases hst
  split at hst
  case isFalse => cases hst
  rename_i hn
  simp only [Option.some.injEq, Prod.mk.injEq] at hst
  obtain ⟨rfl, rfl, rfl, rfl⟩ := hst
  refine ⟨fun ρ => renL_map (f := AV.int .u64) (fun _ => rfl) _, ?_⟩
  have hr := ms_root hi (m := m)
  have hr7 : ∀ (s : MemSt) lv cv, (rootL s lv cv)[7]? = some cv := fun _ _ _ => rfl
  have h61 : assoc [(61, (c_slices_Clone_uint64 : AFun Ob))] 61 = some c_slices_Clone_uint64 := rfl
  have hpl1 : (plM (.mem s) i m.length).1 = .cells 8 false (rootL s (lvA (m.length + 1) s) (cvA i m.length s)) := rfl
  have hp := pl_len (m := m) (i := i) s
  by_cases h0 : s.cells = []
  · have hcv : cvA i m.length s = .sl i 0 0 (some 0) := if_pos h0
    have hrun : Fn [(61, c_slices_Clone_uint64)] cell_Mem_All [.ptr i 0] (m.set i (plM (.mem s) i m.length).1 ++ (plM (.mem s) i m.length).2) (fun v M => v = .sl (m.length + 2) 0 0 (some 0) ∧ M = m.set i (plM (.mem s) i m.length).1 ++ ((plM (.mem s) i m.length).2 ++ [.cells 1 false []])) := by
      refine Fn_of rfl ?_
      simp (disch := first | assumption | omega | (simp only [List.length_cons, List.length_nil, List.length_set, List.length_append] <;> omega) | (simp only [get_mid, get_mid0, List.cons_append, List.append_assoc, List.getElem?_cons_zero, List.getElem?_cons_succ])) only [cell_Mem_All, ek, ↓evW, ↓evQ, evB, evS, evL, List.map, AV.cells, List.all, AV.one, Bool.and_true, Bool.true_and, if_true, ↓thenQ_normal, ↓thenQ_exit, ↓thenQ_ret, ↓blockQ_normal, ↓blockQ_ret, ↓blockQ_exit, ↓CW_true, ↓CW_false, CW_true, CW_false, condT, condF, RQ_some, tupA_one, tupA_two, tupA_nil, Nat.reduceSub, Nat.reduceAdd, Nat.reduceMul, Nat.zero_add, Nat.add_zero, Nat.reduceLeDiff, Nat.reduceEqDiff, eqV, eqAll, fillA, and_self, and_true, true_and, Nat.le_refl, Bool.not_true, Bool.not_false, Bool.false_xor, Bool.true_xor, cond_true, cond_false, List.replicate, if_false, reduceIte, resAll, resA, ne_eq, decide_not, decide_true, decide_false, Int.reduceEq, Bool.not_true, Bool.not_false, not_true_eq_false, not_false_eq_true, cond_bool, cond_int, beq_self_eq_true, Int.reduceBEq, Bool.and_self, Bool.and_false, Bool.false_and, Bool.xor_false, Bool.xor_true, loadN_ldC, ldC_none, ldC_somes, stC_aggs, splice, storeN_stC, stC_int, stC_bool, stC_ptr, stC_nilp, stC_sl, stC_nils, getC_gcO, gcO_cells, W_draw_eq, ↓W_scope, ev_clear, evT, evF, evX, evM, ↓exitQ_normal, ↓exitQ_ret, ↓exitQ_exit, saA_self, saO_self, if_pos, if_neg, wrapI, get_concat, set_concat, Int.toNat_natCast, Int.toNat_zero, List.nil_append, Nat.mul_one, decide_eq_true, decide_eq_false, Int.reduceLE, Int.reduceLT, Int.reduceNeg, Bool.false_or, Bool.true_or, Bool.or_false, Bool.or_true, wrapU, Int.reduceAdd, Int.reduceSub, Int.reduceMul, hpl1, hr, hr7, hcv, h61, clone_nil]
      simp [hp]
    obtain ⟨_, _, h1, rfl, rfl⟩ := hrun
    refine ⟨_, _, m.length, m.length + 1, m.length + 2, h1, by simp [AV.ren, rhoN_q, h0], by omega, by omega, by omega, by rw [ms_mid, h0]; rfl, by simp, fun j hj hji => ms_other hj hji _ _, by omega, by omega, by omega, ⟨⟨_, ms_root hi _ _, .inl rfl⟩, fun _ => by rw [ms_mid0]; rfl, fun _ => by rw [ms_mid]; rfl⟩⟩
  · have hcv : cvA i m.length s = .sl m.length 0 s.cells.length (if s.ck then some s.cells.length else none) := if_neg h0
    have hcl := clone_run (M := m.set i (plM (.mem s) i m.length).1 ++ (plM (.mem s) i m.length).2) (q := m.length) (cap := if s.ck then some s.cells.length else none) (xs := s.cells) (by rw [ms_mid0]; rfl) h0 hn
    have hrun : Fn [(61, c_slices_Clone_uint64)] cell_Mem_All [.ptr i 0] (m.set i (plM (.mem s) i m.length).1 ++ (plM (.mem s) i m.length).2) (fun v M => v = .sl (m.length + 3) 0 s.cells.length none ∧ M = m.set i (plM (.mem s) i m.length).1 ++ ((plM (.mem s) i m.length).2 ++ [.cells 1 false [], .cells 1 false (uC s.cells)])) := by
      refine Fn_of rfl ?_
      rw [hpl1, hcv] at hcl
      simp (disch := first | assumption | omega | (simp only [List.length_cons, List.length_nil, List.length_set, List.length_append] <;> omega) | (simp only [get_mid, get_mid0, List.cons_append, List.append_assoc, List.getElem?_cons_zero, List.getElem?_cons_succ])) only [cell_Mem_All, ek, ↓evW, ↓evQ, evB, evS, evL, List.map, AV.cells, List.all, AV.one, Bool.and_true, Bool.true_and, if_true, ↓thenQ_normal, ↓thenQ_exit, ↓thenQ_ret, ↓blockQ_normal, ↓blockQ_ret, ↓blockQ_exit, ↓CW_true, ↓CW_false, CW_true, CW_false, condT, condF, RQ_some, tupA_one, tupA_two, tupA_nil, Nat.reduceSub, Nat.reduceAdd, Nat.reduceMul, Nat.zero_add, Nat.add_zero, Nat.reduceLeDiff, Nat.reduceEqDiff, eqV, eqAll, fillA, and_self, and_true, true_and, Nat.le_refl, Bool.not_true, Bool.not_false, Bool.false_xor, Bool.true_xor, cond_true, cond_false, List.replicate, if_false, reduceIte, resAll, resA, ne_eq, decide_not, decide_true, decide_false, Int.reduceEq, Bool.not_true, Bool.not_false, not_true_eq_false, not_false_eq_true, cond_bool, cond_int, beq_self_eq_true, Int.reduceBEq, Bool.and_self, Bool.and_false, Bool.false_and, Bool.xor_false, Bool.xor_true, loadN_ldC, ldC_none, ldC_somes, stC_aggs, splice, storeN_stC, stC_int, stC_bool, stC_ptr, stC_nilp, stC_sl, stC_nils, getC_gcO, gcO_cells, W_draw_eq, ↓W_scope, ev_clear, evT, evF, evX, evM, ↓exitQ_normal, ↓exitQ_ret, ↓exitQ_exit, saA_self, saO_self, if_pos, if_neg, wrapI, get_concat, set_concat, Int.toNat_natCast, Int.toNat_zero, List.nil_append, Nat.mul_one, decide_eq_true, decide_eq_false, Int.reduceLE, Int.reduceLT, Int.reduceNeg, Bool.false_or, Bool.true_or, Bool.or_false, Bool.or_true, wrapU, Int.reduceAdd, Int.reduceSub, Int.reduceMul, hpl1, hr, hr7, hcv, h61, hcl]
      simp [hp]
    obtain ⟨_, _, h1, rfl, rfl⟩ := hrun
    refine ⟨_, _, m.length, m.length + 1, m.length + 3, h1, by simp [AV.ren, rhoN_q, h0], by omega, by omega, by omega, by rw [ms_mid]; rfl, by simp, fun j hj hji => ms_other hj hji _ _, by omega, by omega, by omega, ⟨⟨_, ms_root hi _ _, .inl rfl⟩, fun _ => by rw [ms_mid0]; rfl, fun _ => by rw [ms_mid]; rfl⟩⟩
end Go.Am.F06
end
section
namespace Go.Am.F06
def newSt (n : Int) : MemSt := { cells := List.replicate (max 0 (min n 65536)).toNat 0, ck := true, ops := 0, loads := 0, stores := 0, swaps := 0, fails := 0, adds := 0, log := [], pre := [] }
def newF : AFun Ob := fun args m => match args with
  | [.int .i64 n] => some (.ptr m.length 0, m ++ [.abs (.mem (newSt n))])
  | _ => none
set_option maxHeartbeats 4000000 in
theorem new_fold : Fold concM c_cell_New newF := by
  intro args m v m' hg
  unfold newF at hg
  split at hg
  case h_2 => cases hg
  rename_i n
  simp only [Option.some.injEq, Prod.mk.injEq] at hg
  obtain ⟨rfl, rfl⟩ := hg
  have hrun : Fn [] cell_New [.int .i64 n] m (fun v M => v = .ptr (m.length + 1) 0 ∧ M = m ++ [.cells 1 false (uC (newSt n).cells), .cells 8 false (rootL (newSt n) .nils (.sl m.length 0 (newSt n).cells.length (some (newSt n).cells.length)))]) := by
    refine Fn_of rfl ?_
    have hK : (if (if 65536 < n then 65536 else n) > 0 then if 65536 < n then 65536 else n else 0) = max 0 (min n 65536) := by split <;> split <;> omega
    have hk0 : 0 ≤ max 0 (min n 65536) ∧ max 0 (min n 65536) ≤ 65536 := by omega
    have hrep : repeatL (max 0 (min n 65536)).toNat [AV.int .u64 0] = uC (newSt n).cells := by simp [repeatL, uC, newSt]
    have hcl : (newSt n).cells.length = (max 0 (min n 65536)).toNat := by simp [newSt]
    have hmk : amOp [] (.make 1 8 [.int .u64 0]) [.int .i64 (max 0 (min n 65536)), .int .i64 (max 0 (min n 65536))] m = some (.sl m.length 0 (max 0 (min n 65536)).toNat (some (max 0 (min n 65536)).toNat), m ++ [.cells 1 false (uC (newSt n).cells)]) := by
      simp only [amOp, hrep]
      rw [if_pos (by omega)]
    simp (disch := first | assumption | omega | (simp only [List.length_cons, List.length_nil, List.length_set, List.length_append] <;> omega) | (simp only [get_mid, get_mid0, List.cons_append, List.append_assoc, List.getElem?_cons_zero, List.getElem?_cons_succ])) only [cell_New, ek, ↓evW, ↓evQ, evB, evS, evL, List.map, AV.cells, List.all, AV.one, Bool.and_true, Bool.true_and, if_true, ↓thenQ_normal, ↓thenQ_exit, ↓thenQ_ret, ↓blockQ_normal, ↓blockQ_ret, ↓blockQ_exit, ↓CW_true, ↓CW_false, CW_true, CW_false, condT, condF, RQ_some, tupA_one, tupA_two, tupA_nil, Nat.reduceSub, Nat.reduceAdd, Nat.reduceMul, Nat.zero_add, Nat.add_zero, Nat.reduceLeDiff, Nat.reduceEqDiff, eqV, eqAll, fillA, and_self, and_true, true_and, Nat.le_refl, Bool.not_true, Bool.not_false, Bool.false_xor, Bool.true_xor, cond_true, cond_false, List.replicate, if_false, reduceIte, resAll, resA, ne_eq, decide_not, decide_true, decide_false, Int.reduceEq, Bool.not_true, Bool.not_false, not_true_eq_false, not_false_eq_true, cond_bool, cond_int, beq_self_eq_true, Int.reduceBEq, Bool.and_self, Bool.and_false, Bool.false_and, Bool.xor_false, Bool.xor_true, loadN_ldC, ldC_none, ldC_somes, stC_aggs, splice, storeN_stC, stC_int, stC_bool, stC_ptr, stC_nilp, stC_sl, stC_nils, getC_gcO, gcO_cells, W_draw_eq, ↓W_scope, ev_clear, evT, evF, evX, evM, ↓exitQ_normal, ↓exitQ_ret, ↓exitQ_exit, saA_self, saO_self, if_pos, if_neg, wrapI, get_concat, set_concat, Int.toNat_natCast, Int.toNat_zero, List.nil_append, Nat.mul_one, decide_eq_true, decide_eq_false, Int.reduceLE, Int.reduceLT, Int.reduceNeg, Bool.false_or, Bool.true_or, Bool.or_false, Bool.or_true, wrapU, Int.reduceAdd, Int.reduceSub, Int.reduceMul, List.append_assoc, List.length_append, get_mid, get_mid0, set_mid, set_mid0, hK, hmk, hcl, rootL, newSt]
    simp
  obtain ⟨_, _, h1, rfl, rfl⟩ := hrun
  refine fold_new (q := m.length + 1) (k1 := m.length) (k2 := m.length + 2) h1 (by simp [AV.ren, rhoN_q]) (by omega) (by omega) (by omega) (fun j hj => List.getElem?_append_left hj) (by omega) (by omega) (by omega) ⟨?_, fun _ => ?_, fun h => absurd rfl h⟩
  · by_cases h0 : (newSt n).cells = []
    · refine ⟨_, by rw [get_mid]; rfl, .inr ⟨h0, m.length, 0, ?_⟩⟩
      rw [h0]; rfl
    · refine ⟨_, by rw [get_mid]; rfl, .inl ?_⟩
      rw [cvA, if_neg h0]; rfl
  · rw [get_mid0]; rfl
end Go.Am.F06
end
section
namespace Go.Am.F06
end Go.Am.F06
end
section
namespace Go.Am.F06
theorem set_same {m : MM} {i : Nat} {c : Chunk Ob} (h : m[i]? = some c) : m.set i c = m := by
  apply List.ext_getElem?
  intro j
  by_cases hj : i = j
  · subst hj; rw [List.getElem?_set_self (List.getElem?_eq_some_iff.1 h).1, h]
  · rw [List.getElem?_set_ne hj]
end Go.Am.F06
end
section
namespace Go.Am.F06
def cellsOf (n : Nat) (es : List Acc) : List Int := es.foldl (fun c e => c.set e.at'.toNat e.new) (List.replicate n 0)
theorem cellsOf_nil (n : Nat) : cellsOf n [] = List.replicate n 0 := rfl
theorem cellsOf_app (n : Nat) (es : List Acc) (e : Acc) : cellsOf n (es ++ [e]) = (cellsOf n es).set e.at'.toNat e.new := by simp [cellsOf]
theorem cellsOf_len (n : Nat) (es : List Acc) : (cellsOf n es).length = n := by
  have : ∀ (es : List Acc) (c : List Int), (es.foldl (fun c e => c.set e.at'.toNat e.new) c).length = c.length := by
    intro es
    induction es with
    | nil => intro c; rfl
    | cons e es ih => intro c; rw [List.foldl_cons, ih, List.length_set]
  rw [cellsOf, this, List.length_replicate]
theorem cellsOf_take {n i : Nat} {es : List Acc} {e : Acc} (h : es[i]? = some e) : cellsOf n (es.take (i + 1)) = (cellsOf n (es.take i)).set e.at'.toNat e.new := by
  rw [List.take_add_one, h]; exact cellsOf_app _ _ _
def okE (n : Nat) (es : List Acc) : Prop := ∀ e, e ∈ es → 0 ≤ e.at' ∧ e.at' < n
theorem okE_at {n i : Nat} {es : List Acc} {e : Acc} (h : okE n es) (he : es[i]? = some e) : 0 ≤ e.at' ∧ e.at' < n := h e (List.mem_of_getElem? he)
section
variable {X : Type}
abbrev SA (m : Mem X) (wr : Bool) (es : List Acc) (v : AV) : Prop := Sl m wr 4 es.length (es.flatMap accC) v
theorem SA.get {m : Mem X} {wr : Bool} {es : List Acc} {v : AV} (h : SA m wr es v) {i : Nat} {e : Acc} (he : es[i]? = some e) : ∃ q o cap ro L, v = .sl q o es.length cap ∧ m[q]? = some (.cells 4 ro L) ∧ (wr = true → ro = false) ∧ i < es.length ∧ o + i * 4 + 4 ≤ L.length ∧
    (L.drop (o + i * 4)).take 4 = accC e ∧ L[o + i * 4]? = some (.int .i64 e.kind) ∧ L[o + i * 4 + 1]? = some (.int .i64 e.at') ∧ L[o + i * 4 + 2]? = some (.int .u64 e.old) ∧ L[o + i * 4 + 3]? = some (.int .u64 e.new) := by
  have hi : i < es.length := (List.getElem?_eq_some_iff.1 he).1
  obtain ⟨q, o, cap, ro, L, rfl, h2, h3, h4, h5⟩ := h.at (by omega)
  have hp := rows_part (f := accC) (sz := 4) (fun _ => rfl) he
  have hL : ∀ k, k < 4 → L[o + i * 4 + k]? = (accC e)[k]? := by
    intro k hk
    rw [Nat.add_assoc, sl_get h3 (by omega), rows_at (f := accC) (sz := 4) (fun _ => rfl) he hk]
  refine ⟨q, o, cap, ro, L, rfl, h2, h5, hi, by omega, ?_, hL 0 (by omega), hL 1 (by omega), hL 2 (by omega), hL 3 (by omega)⟩
  apply List.ext_getElem?
  intro k
  by_cases hk : k < 4
  · rw [List.getElem?_take, if_pos hk, List.getElem?_drop, hL k hk]
  · rw [List.getElem?_eq_none (by simp; omega), List.getElem?_eq_none (by simp [accC]; omega)]
def bookC (n : Nat) (v : AV) : List AV := [.int .i64 n, v]
def AtI (M : Mem X) (n : Nat) (es : List Acc) (v : AV) (a : Int) (k : Nat) (e : List AV) (m : Mem X) : Prop := ∃ (i : Int) (x5 x6 : AV),
  e = [.agg (bookC n v), .int .i64 a, .ptr M.length 0, .int .u64 0, .int .i64 i, x5, x6] ∧ m = M ++ [.cells 2 false (bookC n v)] ∧ (k : Int) = i + 1 ∧ i < es.length ∧ (cellsOf n es)[a.toNat]? = (cellsOf n (es.take (i + 1).toNat))[a.toNat]?
set_option maxHeartbeats 2000000 in
theorem at_run {G : List (Nat × AFun X)} {m : Mem X} {wr : Bool} {n : Nat} {es : List Acc} {v : AV} {a : Int} (hs : SA m wr es v) (hok : okE n es) (hn : es.length ≤ 1000) (h0 : 0 ≤ a) (h1 : a < n) :
    Fn G ref06_At [.agg (bookC n v), .int .i64 a] m (fun r m' => r = .int .u64 ((cellsOf n es).getD a.toNat 0) ∧ m' = m ++ [.cells 2 false (bookC n v)]) := by
  have hlen := hs.len
  have hone : v.one = true := by
    rcases hs.2 with ⟨h, _⟩ | ⟨q, o, cap, h, _⟩ <;> rw [h] <;> rfl
  simp only [AV.one] at hone
  refine Fn_of rfl ?_
  simp (disch := first | assumption | omega | (simp only [List.length_cons, List.length_nil, List.length_set, List.length_append] <;> omega) | (simp only [get_mid, get_mid0, List.cons_append, List.append_assoc, List.getElem?_cons_zero, List.getElem?_cons_succ])) only [ref06_At, ek, ↓evW, ↓evQ, evB, evS, evL, List.map, AV.cells, List.all, AV.one, Bool.and_true, Bool.true_and, if_true, ↓thenQ_normal, ↓thenQ_exit, ↓thenQ_ret, ↓blockQ_normal, ↓blockQ_ret, ↓blockQ_exit, ↓CW_true, ↓CW_false, CW_true, CW_false, condT, condF, RQ_some, tupA_one, tupA_two, tupA_nil, Nat.reduceSub, Nat.reduceAdd, Nat.reduceMul, Nat.zero_add, Nat.add_zero, Nat.reduceLeDiff, Nat.reduceEqDiff, eqV, eqAll, fillA, and_self, and_true, true_and, Nat.le_refl, Bool.not_true, Bool.not_false, Bool.false_xor, Bool.true_xor, cond_true, cond_false, List.replicate, if_false, reduceIte, resAll, resA, ne_eq, decide_not, decide_true, decide_false, Int.reduceEq, Bool.not_true, Bool.not_false, not_true_eq_false, not_false_eq_true, cond_bool, cond_int, beq_self_eq_true, Int.reduceBEq, Bool.and_self, Bool.and_false, Bool.false_and, Bool.xor_false, Bool.xor_true, loadN_ldC, ldC_none, ldC_somes, stC_aggs, splice, storeN_stC, stC_int, stC_bool, stC_ptr, stC_nilp, stC_sl, stC_nils, getC_gcO, gcO_cells, W_draw_eq, ↓W_scope, ev_clear, evT, evF, evX, evM, ↓exitQ_normal, ↓exitQ_ret, ↓exitQ_exit, saA_self, saO_self, if_pos, if_neg, wrapI, get_concat, set_concat, Int.toNat_natCast, Int.toNat_zero, List.nil_append, Nat.mul_one, decide_eq_true, decide_eq_false, Int.reduceLE, Int.reduceLT, Int.reduceNeg, Bool.false_or, Bool.true_or, Bool.or_false, Bool.or_true, wrapU, Int.reduceAdd, Int.reduceSub, Int.reduceMul, List.append_assoc, List.length_append, get_mid, get_mid0, set_mid, set_mid0, bookC, ev_len, hlen, hone]
  refine W_loop (AtI m n es v a) es.length (by simp only [FUEL]; omega) ⟨(es.length : Int) - 1, _, _, rfl, rfl, by omega, by omega, by rw [List.take_of_length_le (by omega)]⟩ ?_
  rintro k e m' ⟨i, x5, x6, rfl, rfl, hk, hi, hc⟩
  simp (disch := first | assumption | omega | (simp only [List.length_cons, List.length_nil, List.length_set, List.length_append] <;> omega) | (simp only [get_mid, get_mid0, List.cons_append, List.append_assoc, List.getElem?_cons_zero, List.getElem?_cons_succ])) only [ek, ↓evW, ↓evQ, evB, evS, evL, List.map, AV.cells, List.all, AV.one, Bool.and_true, Bool.true_and, if_true, ↓thenQ_normal, ↓thenQ_exit, ↓thenQ_ret, ↓blockQ_normal, ↓blockQ_ret, ↓blockQ_exit, ↓CW_true, ↓CW_false, CW_true, CW_false, condT, condF, RQ_some, tupA_one, tupA_two, tupA_nil, Nat.reduceSub, Nat.reduceAdd, Nat.reduceMul, Nat.zero_add, Nat.add_zero, Nat.reduceLeDiff, Nat.reduceEqDiff, eqV, eqAll, fillA, and_self, and_true, true_and, Nat.le_refl, Bool.not_true, Bool.not_false, Bool.false_xor, Bool.true_xor, cond_true, cond_false, List.replicate, if_false, reduceIte, resAll, resA, ne_eq, decide_not, decide_true, decide_false, Int.reduceEq, Bool.not_true, Bool.not_false, not_true_eq_false, not_false_eq_true, cond_bool, cond_int, beq_self_eq_true, Int.reduceBEq, Bool.and_self, Bool.and_false, Bool.false_and, Bool.xor_false, Bool.xor_true, loadN_ldC, ldC_none, ldC_somes, stC_aggs, splice, storeN_stC, stC_int, stC_bool, stC_ptr, stC_nilp, stC_sl, stC_nils, getC_gcO, gcO_cells, W_draw_eq, ↓W_scope, ev_clear, evT, evF, evX, evM, ↓exitQ_normal, ↓exitQ_ret, ↓exitQ_exit, saA_self, saO_self, if_pos, if_neg, wrapI, get_concat, set_concat, Int.toNat_natCast, Int.toNat_zero, List.nil_append, Nat.mul_one, decide_eq_true, decide_eq_false, Int.reduceLE, Int.reduceLT, Int.reduceNeg, Bool.false_or, Bool.true_or, Bool.or_false, Bool.or_true, wrapU, Int.reduceAdd, Int.reduceSub, Int.reduceMul, List.append_assoc, List.length_append, get_mid, get_mid0, set_mid, set_mid0, bookC]
  refine CW_of (fun h => ?_) (fun h => ?_)
  · simp only [decide_eq_true_eq] at h
    obtain ⟨j, rfl⟩ : ∃ j : Nat, i = j := ⟨i.toNat, by omega⟩
    obtain ⟨e, he⟩ : ∃ e, es[j]? = some e := ⟨_, List.getElem?_eq_getElem (by omega)⟩
    obtain ⟨q, o, cap, ro, L, rfl, hq, _, g1, g2, g3, g4, g5, g6, g7⟩ := hs.get he
    have hq' : (m ++ [Chunk.cells 2 false [.int .i64 (n : Int), .sl q o es.length cap]])[q]? = some (.cells 4 ro L) := by rw [List.getElem?_append_left (List.getElem?_eq_some_iff.1 hq).1]; exact hq
    have hok := okE_at hok he
    have ht := cellsOf_take (n := n) he
    have hj : ((j : Int) + 1).toNat = j + 1 := by omega
    rw [hj, ht] at hc
    have hl := cellsOf_len n (es.take j)
    simp (disch := first | assumption | omega | (simp only [List.length_cons, List.length_nil, List.length_set, List.length_append] <;> omega) | (simp only [get_mid, get_mid0, List.cons_append, List.append_assoc, List.getElem?_cons_zero, List.getElem?_cons_succ])) only [ek, ↓evW, ↓evQ, evB, evS, evL, List.map, AV.cells, List.all, AV.one, Bool.and_true, Bool.true_and, if_true, ↓thenQ_normal, ↓thenQ_exit, ↓thenQ_ret, ↓blockQ_normal, ↓blockQ_ret, ↓blockQ_exit, ↓CW_true, ↓CW_false, CW_true, CW_false, condT, condF, RQ_some, tupA_one, tupA_two, tupA_nil, Nat.reduceSub, Nat.reduceAdd, Nat.reduceMul, Nat.zero_add, Nat.add_zero, Nat.reduceLeDiff, Nat.reduceEqDiff, eqV, eqAll, fillA, and_self, and_true, true_and, Nat.le_refl, Bool.not_true, Bool.not_false, Bool.false_xor, Bool.true_xor, cond_true, cond_false, List.replicate, if_false, reduceIte, resAll, resA, ne_eq, decide_not, decide_true, decide_false, Int.reduceEq, Bool.not_true, Bool.not_false, not_true_eq_false, not_false_eq_true, cond_bool, cond_int, beq_self_eq_true, Int.reduceBEq, Bool.and_self, Bool.and_false, Bool.false_and, Bool.xor_false, Bool.xor_true, loadN_ldC, ldC_none, ldC_somes, stC_aggs, splice, storeN_stC, stC_int, stC_bool, stC_ptr, stC_nilp, stC_sl, stC_nils, getC_gcO, gcO_cells, W_draw_eq, ↓W_scope, ev_clear, evT, evF, evX, evM, ↓exitQ_normal, ↓exitQ_ret, ↓exitQ_exit, saA_self, saO_self, if_pos, if_neg, wrapI, get_concat, set_concat, Int.toNat_natCast, Int.toNat_zero, List.nil_append, Nat.mul_one, decide_eq_true, decide_eq_false, Int.reduceLE, Int.reduceLT, Int.reduceNeg, Bool.false_or, Bool.true_or, Bool.or_false, Bool.or_true, wrapU, Int.reduceAdd, Int.reduceSub, Int.reduceMul, List.append_assoc, List.length_append, get_mid, get_mid0, set_mid, set_mid0, hq', g5]
    refine CW_of (fun h => ?_) (fun h => ?_)
    · simp only [decide_eq_true_eq] at h
      simp (disch := first | assumption | omega | (simp only [List.length_cons, List.length_nil, List.length_set, List.length_append] <;> omega) | (simp only [get_mid, get_mid0, List.cons_append, List.append_assoc, List.getElem?_cons_zero, List.getElem?_cons_succ])) only [ek, ↓evW, ↓evQ, evB, evS, evL, List.map, AV.cells, List.all, AV.one, Bool.and_true, Bool.true_and, if_true, ↓thenQ_normal, ↓thenQ_exit, ↓thenQ_ret, ↓blockQ_normal, ↓blockQ_ret, ↓blockQ_exit, ↓CW_true, ↓CW_false, CW_true, CW_false, condT, condF, RQ_some, tupA_one, tupA_two, tupA_nil, Nat.reduceSub, Nat.reduceAdd, Nat.reduceMul, Nat.zero_add, Nat.add_zero, Nat.reduceLeDiff, Nat.reduceEqDiff, eqV, eqAll, fillA, and_self, and_true, true_and, Nat.le_refl, Bool.not_true, Bool.not_false, Bool.false_xor, Bool.true_xor, cond_true, cond_false, List.replicate, if_false, reduceIte, resAll, resA, ne_eq, decide_not, decide_true, decide_false, Int.reduceEq, Bool.not_true, Bool.not_false, not_true_eq_false, not_false_eq_true, cond_bool, cond_int, beq_self_eq_true, Int.reduceBEq, Bool.and_self, Bool.and_false, Bool.false_and, Bool.xor_false, Bool.xor_true, loadN_ldC, ldC_none, ldC_somes, stC_aggs, splice, storeN_stC, stC_int, stC_bool, stC_ptr, stC_nilp, stC_sl, stC_nils, getC_gcO, gcO_cells, W_draw_eq, ↓W_scope, ev_clear, evT, evF, evX, evM, ↓exitQ_normal, ↓exitQ_ret, ↓exitQ_exit, saA_self, saO_self, if_pos, if_neg, wrapI, get_concat, set_concat, Int.toNat_natCast, Int.toNat_zero, List.nil_append, Nat.mul_one, decide_eq_true, decide_eq_false, Int.reduceLE, Int.reduceLT, Int.reduceNeg, Bool.false_or, Bool.true_or, Bool.or_false, Bool.or_true, wrapU, Int.reduceAdd, Int.reduceSub, Int.reduceMul, List.append_assoc, List.length_append, get_mid, get_mid0, set_mid, set_mid0, hq', g7]
      rw [← h, List.getElem?_set_self (by omega)] at hc
      rw [List.getD_eq_getElem?_getD, ← h, hc]; rfl
    · simp only [decide_eq_false_iff_not] at h
      simp (disch := first | assumption | omega | (simp only [List.length_cons, List.length_nil, List.length_set, List.length_append] <;> omega) | (simp only [get_mid, get_mid0, List.cons_append, List.append_assoc, List.getElem?_cons_zero, List.getElem?_cons_succ])) only [ek, ↓evW, ↓evQ, evB, evS, evL, List.map, AV.cells, List.all, AV.one, Bool.and_true, Bool.true_and, if_true, ↓thenQ_normal, ↓thenQ_exit, ↓thenQ_ret, ↓blockQ_normal, ↓blockQ_ret, ↓blockQ_exit, ↓CW_true, ↓CW_false, CW_true, CW_false, condT, condF, RQ_some, tupA_one, tupA_two, tupA_nil, Nat.reduceSub, Nat.reduceAdd, Nat.reduceMul, Nat.zero_add, Nat.add_zero, Nat.reduceLeDiff, Nat.reduceEqDiff, eqV, eqAll, fillA, and_self, and_true, true_and, Nat.le_refl, Bool.not_true, Bool.not_false, Bool.false_xor, Bool.true_xor, cond_true, cond_false, List.replicate, if_false, reduceIte, resAll, resA, ne_eq, decide_not, decide_true, decide_false, Int.reduceEq, Bool.not_true, Bool.not_false, not_true_eq_false, not_false_eq_true, cond_bool, cond_int, beq_self_eq_true, Int.reduceBEq, Bool.and_self, Bool.and_false, Bool.false_and, Bool.xor_false, Bool.xor_true, loadN_ldC, ldC_none, ldC_somes, stC_aggs, splice, storeN_stC, stC_int, stC_bool, stC_ptr, stC_nilp, stC_sl, stC_nils, getC_gcO, gcO_cells, W_draw_eq, ↓W_scope, ev_clear, evT, evF, evX, evM, ↓exitQ_normal, ↓exitQ_ret, ↓exitQ_exit, saA_self, saO_self, if_pos, if_neg, wrapI, get_concat, set_concat, Int.toNat_natCast, Int.toNat_zero, List.nil_append, Nat.mul_one, decide_eq_true, decide_eq_false, Int.reduceLE, Int.reduceLT, Int.reduceNeg, Bool.false_or, Bool.true_or, Bool.or_false, Bool.or_true, wrapU, Int.reduceAdd, Int.reduceSub, Int.reduceMul, List.append_assoc, List.length_append, get_mid, get_mid0, set_mid, set_mid0]
      refine ⟨j, by omega, (j : Int) - 1, _, _, rfl, rfl, by omega, by omega, ?_⟩
      rw [hc, List.getElem?_set_ne (by omega)]
      congr 3; omega
  · simp only [decide_eq_false_iff_not] at h
    simp (disch := first | assumption | omega | (simp only [List.length_cons, List.length_nil, List.length_set, List.length_append] <;> omega) | (simp only [get_mid, get_mid0, List.cons_append, List.append_assoc, List.getElem?_cons_zero, List.getElem?_cons_succ])) only [ek, ↓evW, ↓evQ, evB, evS, evL, List.map, AV.cells, List.all, AV.one, Bool.and_true, Bool.true_and, if_true, ↓thenQ_normal, ↓thenQ_exit, ↓thenQ_ret, ↓blockQ_normal, ↓blockQ_ret, ↓blockQ_exit, ↓CW_true, ↓CW_false, CW_true, CW_false, condT, condF, RQ_some, tupA_one, tupA_two, tupA_nil, Nat.reduceSub, Nat.reduceAdd, Nat.reduceMul, Nat.zero_add, Nat.add_zero, Nat.reduceLeDiff, Nat.reduceEqDiff, eqV, eqAll, fillA, and_self, and_true, true_and, Nat.le_refl, Bool.not_true, Bool.not_false, Bool.false_xor, Bool.true_xor, cond_true, cond_false, List.replicate, if_false, reduceIte, resAll, resA, ne_eq, decide_not, decide_true, decide_false, Int.reduceEq, Bool.not_true, Bool.not_false, not_true_eq_false, not_false_eq_true, cond_bool, cond_int, beq_self_eq_true, Int.reduceBEq, Bool.and_self, Bool.and_false, Bool.false_and, Bool.xor_false, Bool.xor_true, loadN_ldC, ldC_none, ldC_somes, stC_aggs, splice, storeN_stC, stC_int, stC_bool, stC_ptr, stC_nilp, stC_sl, stC_nils, getC_gcO, gcO_cells, W_draw_eq, ↓W_scope, ev_clear, evT, evF, evX, evM, ↓exitQ_normal, ↓exitQ_ret, ↓exitQ_exit, saA_self, saO_self, if_pos, if_neg, wrapI, get_concat, set_concat, Int.toNat_natCast, Int.toNat_zero, List.nil_append, Nat.mul_one, decide_eq_true, decide_eq_false, Int.reduceLE, Int.reduceLT, Int.reduceNeg, Bool.false_or, Bool.true_or, Bool.or_false, Bool.or_true, wrapU, Int.reduceAdd, Int.reduceSub, Int.reduceMul, List.append_assoc, List.length_append, get_mid, get_mid0, set_mid, set_mid0]
    have hi : (i + 1).toNat = 0 := by omega
    rw [hi, List.take_zero, cellsOf_nil, List.getElem?_replicate, if_pos (by omega)] at hc
    rw [List.getD_eq_getElem?_getD, hc]; rfl
theorem own_keep {m J : Mem X} {sz n : Nat} {l : List AV} {v : AV} (h : Own m (m ++ J) sz n l v) (K : Mem X) : Own m (m ++ (J ++ K)) sz n l v := by
  rcases h with h | ⟨q, h1, h2, h3, h4⟩
  · exact .inl h
  · refine .inr ⟨q, h1, ?_, h3, ?_⟩
    · rw [← List.append_assoc, List.getElem?_append_left h4]; exact h2
    · simp at h4 ⊢; omega
def Nc (v : AV) : Prop := v = .nils ∨ ∃ q o n, v = .sl q o (n + 1) none
theorem SA.more {M : Mem X} {wr : Bool} {es : List Acc} {v : AV} (h : SA M wr es v) (hn : es.length ≤ 1000) (e : Acc) : ∃ r1 M1 r2 M2, appendA 4 32 .nils v M = some (r1, M1) ∧ Keep M M1 ∧
    appendA 4 32 r1 (.sl M1.length 0 1 (some 1)) (M1 ++ [.cells 4 false (accC e)]) = some (r2, M2) ∧ Keep M M2 ∧ SA M2 true (es ++ [e]) r2 ∧ Fr M.length r2 ∧ Nc r2 := by
  have h1 : ∃ r J, appendA 4 32 .nils v M = some (r, M ++ J) ∧ Own M (M ++ J) 4 es.length (es.flatMap accC) r := by
    rcases Nat.eq_zero_or_pos es.length with h0 | h0
    · have hx0 : es = [] := List.length_eq_zero_iff.1 h0
      subst hx0
      refine ⟨.nils, [], ?_, own_nil⟩
      rcases h.2 with ⟨rfl, _⟩ | ⟨q, o, cap, rfl, _⟩ <;> simp [appendA, lenA, rowOf]
    · obtain ⟨q, o, cap, ro, L, rfl, h2, h3, h4, _⟩ := h.at h0
      have hr : rowOf M 4 (.sl q o es.length cap) = some (es.flatMap accC) := by
        simp only [rowOf, getC, h2]
        rw [if_neg (by omega), if_pos h4, h3]
      refine ⟨.sl M.length 0 es.length none, [.cells 4 false (es.flatMap accC)], ?_, .inr ⟨M.length, rfl, by simp, Nat.le_refl _, by simp⟩⟩
      simp only [appendA, lenA, hr]
      rw [if_neg (by omega), if_pos ⟨by omega, by omega, accs_one _⟩]
  obtain ⟨r, J, h1, h2⟩ := h1
  obtain ⟨q', J', h3, h4⟩ := own_app (bytes := 32) (c := some 1) (own_keep h2 [.cells 4 false (accC e)]) (accs_len es) (accs_one es) (j := (M ++ J).length) (sz' := 4) (ro := false) (x := accC e) (by rw [← List.append_assoc, get_concat]) rfl rfl (by omega) (by omega)
  refine ⟨r, M ++ J, _, _, h1, Keep.app M J, by rw [List.append_assoc]; exact h3, Keep.app M J', ?_⟩
  have := h4.sl (by rw [List.length_append, accs_len]; simp [accC]; omega)
  refine ⟨?_, this.2, .inr ⟨_, _, _, rfl⟩⟩
  rw [SA, List.length_append, List.flatMap_append]
  simpa using this.1
def doE (n : Nat) (es : List Acc) (kind a old x : Int) : Option Acc :=
  if a < 0 ∨ (n : Int) ≤ a ∨ kind < 1 ∨ 4 < kind then none
  else some ⟨kind, a, (cellsOf n es).getD a.toNat 0, if kind = 2 ∨ (kind = 3 ∧ (cellsOf n es).getD a.toNat 0 = old) then x else if kind = 4 then IntKind.u64.wrap ((cellsOf n es).getD a.toNat 0 + x) else (cellsOf n es).getD a.toNat 0⟩
theorem SA.one {m : Mem X} {wr : Bool} {es : List Acc} {v : AV} (h : SA m wr es v) : v.one = true := by
  rcases h.2 with ⟨h, _⟩ | ⟨q, o, cap, h, _⟩ <;> rw [h] <;> rfl
theorem Fr.one {n : Nat} {v : AV} (h : Fr n v) : v.one = true ∧ v.cells = [v] := by
  rcases h with h | ⟨q, o, k, cap, h, _⟩ <;> rw [h] <;> exact ⟨rfl, rfl⟩
def sqN : Nat → AC → AC
  | 0, .seq a _ => a
  | n + 1, .seq _ b => sqN n b
  | _, c => c
def sqT : Nat → AC → AC
  | 0, c => c
  | n + 1, .seq _ b => sqT n b
  | _, c => c
end
end Go.Am.F06
end
section
namespace Go.Am.F06
def KeepB {X : Type} (k : Nat) (m m' : Mem X) : Prop := m.length ≤ m'.length ∧ ∀ i, i < m.length → i ≠ k → m'[i]? = m[i]?
section
variable {X : Type} {k : Nat}
theorem KeepB.refl (m : Mem X) : KeepB k m m := ⟨Nat.le_refl _, fun _ _ _ => rfl⟩
theorem KeepB.trans {m m' m'' : Mem X} (h : KeepB k m m') (j : KeepB k m' m'') : KeepB k m m'' :=
  ⟨Nat.le_trans h.1 j.1, fun i hi hk => (j.2 i (Nat.lt_of_lt_of_le hi h.1) hk).trans (h.2 i hi hk)⟩
theorem KeepB.of {m m' : Mem X} (h : Keep m m') : KeepB k m m' := ⟨h.1, fun i hi _ => h.2 i hi⟩
theorem KeepB.app (m J : Mem X) : KeepB k m (m ++ J) := .of (Keep.app m J)
theorem KeepB.at (m : Mem X) (c : Chunk X) : KeepB k m (m.set k c) := ⟨by simp, fun i hi hk => by rw [List.getElem?_set_ne (fun h => hk h.symm)]⟩
theorem KeepB.set {m m' : Mem X} (h : KeepB k m m') {q : Nat} (hq : m.length ≤ q) (c : Chunk X) : KeepB k m (m'.set q c) :=
  ⟨by simpa using h.1, fun i hi hk => by rw [List.getElem?_set_ne (by omega)]; exact h.2 i hi hk⟩
theorem KeepB.get {m m' : Mem X} (h : KeepB k m m') {i : Nat} {c : Chunk X} (hi : m[i]? = some c) (hk : i ≠ k) : m'[i]? = some c := (h.2 i (List.getElem?_eq_some_iff.1 hi).1 hk).trans hi
theorem KeepB.sl {m m' : Mem X} (h : KeepB k m m') {x : X} (hk : m[k]? = some (.abs x)) {wr : Bool} {sz n : Nat} {l : List AV} {v : AV} (hs : Sl m wr sz n l v) : Sl m' wr sz n l v := by
  refine ⟨hs.1, ?_⟩
  rcases hs.2 with h1 | ⟨q, o, cap, h1, h2⟩
  · exact .inl h1
  · refine .inr ⟨q, o, cap, h1, fun h0 => ?_⟩
    obtain ⟨ro, L, h3, h4⟩ := h2 h0
    refine ⟨ro, L, h.get h3 (fun hq => ?_), h4⟩
    rw [hq, hk] at h3; injection h3 with h3; cases h3
theorem get_at {α : Type} {l k : List α} {n i : Nat} (h : l.length = n) : (l ++ k)[n + i]? = k[i]? := by rw [← h]; exact get_mid
theorem get_at0 {α : Type} {l k : List α} {n : Nat} (h : l.length = n) : (l ++ k)[n]? = k[0]? := by rw [← h]; exact get_mid0
theorem set_at {α : Type} {l k : List α} {n i : Nat} {y : α} (h : l.length = n) : (l ++ k).set (n + i) y = l ++ k.set i y := by rw [← h]; exact set_mid
theorem set_at0 {α : Type} {l k : List α} {n : Nat} {y : α} (h : l.length = n) : (l ++ k).set n y = l ++ k.set 0 y := by rw [← h]; exact set_mid0
end
def cnt (s : MemSt) : List Int := [s.loads, s.stores, s.swaps, s.fails, s.adds]
def stepL (n : Nat) (es : List Acc) (kind a old x : Int) : List Acc := match doE n es kind a old x with
  | none => es
  | some e => es ++ [e]
theorem memF_of {step : MemSt → List AV → Option (AV × MemSt)} {M : MM} {j : Nat} {s s' : MemSt} {rest : List AV} {v : AV} (hM : M[j]? = some (.abs (.mem s))) (h : step s rest = some (v, s')) : memF step (.ptr j 0 :: rest) M = some (v, M.set j (.abs (.mem s'))) := by
  simp only [memF, hM, h]
end Go.Am.F06
end
section
namespace Go.Am.F06
section
variable {X : Type}
abbrev SU (m : Mem X) (wr : Bool) (xs : List Int) (v : AV) : Prop := Sl m wr 1 xs.length (uC xs) v
theorem uC_len (xs : List Int) : (uC xs).length = xs.length := by simp [uC]
theorem uC_one (xs : List Int) : (uC xs).all AV.one = true := by simp [uC, AV.one]
theorem uC_set (xs : List Int) (i : Nat) (x : Int) : (uC xs).set i (.int .u64 x) = uC (xs.set i x) := by simp [uC, List.map_set]
theorem SU.get {m : Mem X} {wr : Bool} {xs : List Int} {v : AV} (h : SU m wr xs v) {i : Nat} {x : Int} (hx : xs[i]? = some x) : ∃ q o cap ro L, v = .sl q o xs.length cap ∧ m[q]? = some (.cells 1 ro L) ∧ (wr = true → ro = false) ∧ i < xs.length ∧ o + i < L.length ∧ L[o + i]? = some (.int .u64 x) := by
  have hi : i < xs.length := (List.getElem?_eq_some_iff.1 hx).1
  obtain ⟨q, o, cap, ro, L, rfl, h2, h3, h4, h5⟩ := h.at (by omega)
  exact ⟨q, o, cap, ro, L, rfl, h2, h5, hi, by omega, by rw [sl_get h3 (by omega)]; simp [uC, hx]⟩
def Off (q : Nat) (v : AV) : Prop := ∀ q' o n cap, v = .sl q' o n cap → 0 < n → q' ≠ q
theorem KeepB.off {k : Nat} {m m' : Mem X} (h : KeepB k m m') {wr : Bool} {sz n : Nat} {l : List AV} {v : AV} (ho : Off k v) (hs : Sl m wr sz n l v) : Sl m' wr sz n l v := by
  refine ⟨hs.1, ?_⟩
  rcases hs.2 with h1 | ⟨q, o, cap, h1, h2⟩
  · exact .inl h1
  · refine .inr ⟨q, o, cap, h1, fun h0 => ?_⟩
    obtain ⟨ro, L, h3, h4⟩ := h2 h0
    exact ⟨ro, L, h.get h3 (ho _ _ _ _ h1 h0), h4⟩
def slq : AV → Nat
  | .sl q _ _ _ => q
  | _ => 0
end
theorem ops_of {M : MM} {j : Nat} {s : MemSt} (hM : M[j]? = some (.abs (.mem s))) : memF (fun s rest => (opsAsk s rest).map fun v => (v, s)) [.ptr j 0] M = some (.int .u64 s.ops, M) := by
  simp only [memF, hM, opsAsk, Option.map_some, set_same hM]
theorem all_of {M : MM} {j : Nat} {s : MemSt} (hM : M[j]? = some (.abs (.mem s))) (hn : s.cells.length ≤ 65536) : ∃ l, memNF allS [.ptr j 0] M = some (l, M ++ [.cells 1 false (uC s.cells)]) ∧ SU (M ++ [.cells 1 false (uC s.cells)]) true s.cells l ∧ slq l = M.length := by
  simp only [memNF, hM, allS, if_pos hn, set_same hM]
  refine ⟨_, rfl, ?_⟩
  by_cases h : s.cells = []
  · rw [if_pos h]
    exact ⟨⟨by rw [uC_len]; omega, .inr ⟨_, _, _, by rw [h]; rfl, fun h0 => by rw [h] at h0; cases h0⟩⟩, rfl⟩
  · rw [if_neg h]
    exact ⟨⟨by rw [uC_len]; omega, .inr ⟨_, _, _, rfl, fun h0 => ⟨false, _, by rw [get_concat], by rw [List.drop_zero, Nat.mul_one, ← uC_len, List.take_length], by rw [uC_len]; omega, fun _ => rfl⟩⟩⟩, rfl⟩
end Go.Am.F06
end
section
namespace Go.Am.F06
def Cc (m : MM) (i : Nat) (s : MemSt) (M : MM) : Prop := ∃ lv L, M = m.set i (.cells 8 false (rootL s lv (cvA i m.length s))) ++ L ∧ (∀ R, LogAt m.length (m.set i R ++ L) lv s) ∧ L[0]? = some (.cells 1 false (uC s.cells))
theorem logAt_app {m L : MM} {i : Nat} {s : MemSt} {lv : AV} (h : ∀ R, LogAt m.length (m.set i R ++ L) lv s) (K : MM) : ∀ R, LogAt m.length (m.set i R ++ (L ++ K)) lv s := by
  intro R
  rcases h R with h | ⟨k2, h0, h1, h2, h3⟩
  · exact .inl h
  · exact .inr ⟨k2, h0, h1, h2, by rw [← List.append_assoc, List.getElem?_append_left (List.getElem?_eq_some_iff.1 h3).1]; exact h3⟩
theorem get0_app {α : Type} {L K : List α} {c : α} (h : L[0]? = some c) : (L ++ K)[0]? = some c := by
  rw [List.getElem?_append_left (List.getElem?_eq_some_iff.1 h).1]; exact h
theorem Cc.app {m M : MM} {i : Nat} {s : MemSt} (h : Cc m i s M) (K : MM) : Cc m i s (M ++ K) := by
  obtain ⟨lv, L, rfl, h1, h2⟩ := h
  exact ⟨lv, L ++ K, by rw [List.append_assoc], logAt_app h1 K, get0_app h2⟩
def okR (s : MemSt) (e : Acc) : Prop := 0 ≤ e.at' ∧ e.at' < s.cells.length ∧ s.cells.getD e.at'.toNat 0 = e.old ∧ (e.kind = 1 → e.new = e.old) ∧ 1 ≤ e.kind ∧ e.kind ≤ 4
instance (s : MemSt) (e : Acc) : Decidable (okR s e) := by unfold okR; infer_instance
theorem Cc.cells {m M : MM} {i : Nat} {s : MemSt} (h : Cc m i s M) : M[m.length]? = some (.cells 1 false (uC s.cells)) := by
  obtain ⟨lv, L, rfl, h1, h2⟩ := h
  rw [ms_mid0]; exact h2
theorem Cc.root {m M : MM} {i : Nat} (hi : i < m.length) {s : MemSt} (h : Cc m i s M) : ∃ lv, M[i]? = some (.cells 8 false (rootL s lv (cvA i m.length s))) := by
  obtain ⟨lv, L, rfl, h1, h2⟩ := h
  exact ⟨lv, ms_root hi _ _⟩
theorem Cc.keep {m M : MM} {i : Nat} {s : MemSt} (h : Cc m i s M) : KeepB i m M := by
  obtain ⟨lv, L, rfl, h1, h2⟩ := h
  exact (KeepB.at m _).trans (KeepB.app _ _)
theorem Cc.memAt {m M : MM} {i : Nat} (hi : i < m.length) {s : MemSt} (h : Cc m i s M) : ∃ k1 k2, m.length ≤ M.length ∧ (∀ j, j < m.length → j ≠ i → M[j]? = m[j]?) ∧ m.length ≤ k1 ∧ m.length ≤ k2 ∧ k1 ≠ k2 ∧ MemAt M i k1 k2 s := by
  obtain ⟨lv, L, rfl, h1, h2⟩ := h
  exact memAt_of hi h1 h2
end Go.Am.F06
end
section
namespace Go.Am.F06
def badE (n : Nat) (es : List Acc) (e : Acc) : Prop := e.kind < 1 ∨ 4 < e.kind ∨ e.at' < 0 ∨ (n : Int) ≤ e.at' ∨ (cellsOf n es).getD e.at'.toNat 0 ≠ e.old ∨ (e.kind = 1 ∧ e.new ≠ e.old)
instance (n : Nat) (es : List Acc) (e : Acc) : Decidable (badE n es e) := by unfold badE; infer_instance
section
variable {X : Type}
end
end Go.Am.F06
end
section
namespace Go.Am.F06
section
variable {X : Type}
def bN (n : Int) : Nat := (max 0 (min n 65536)).toNat
end
end Go.Am.F06
end
section
namespace Go.Am.F06
section
variable {X : Type}
theorem slOne {m : Mem X} {wr : Bool} {sz n : Nat} {l : List AV} {v : AV} (h : Sl m wr sz n l v) : v.one = true := by
  rcases h.2 with ⟨h, _⟩ | ⟨q, o, cap, h, _⟩ <;> rw [h] <;> rfl
def memC (v : AV) (o : Int) : List AV := [v, .int .u64 o]
theorem SU.put {m : Mem X} {xs : List Int} {q o n : Nat} {cap : Option Nat} {L : List AV} (h : SU m true xs (.sl q o n cap)) (hq : m[q]? = some (.cells 1 false L)) {i : Nat} (hi : i < xs.length) (x : Int) : SU (m.set q (.cells 1 false (L.set (o + i) (.int .u64 x)))) true (xs.set i x) (.sl q o n cap) := by
  obtain ⟨hlen, hsl⟩ := h
  rcases hsl with ⟨h, _⟩ | ⟨q', o', cap', h, h5⟩
  · cases h
  · injection h with e1 e2 e3 e4; subst e1; subst e2; subst e3; subst e4
    obtain ⟨ro, L', d1, d2, d3, d4⟩ := h5 (by omega)
    rw [hq] at d1; injection d1 with d1; injection d1 with _ _ d1; subst d1
    refine ⟨by simp [uC_len], .inr ⟨q, o, cap, by rw [List.length_set], fun _ => ⟨false, _, List.getElem?_set_self (List.getElem?_eq_some_iff.1 hq).1, ?_, by simpa using d3, fun _ => rfl⟩⟩⟩
    rw [List.length_set, List.drop_set, if_neg (by omega), List.take_set, d2, ← uC_set]
    congr 1; omega
def thr (xs : List Int) (a : Int) : Prop := 0 ≤ a ∧ a < xs.length
instance (xs : List Int) (a : Int) : Decidable (thr xs a) := by unfold thr; infer_instance
end
end Go.Am.F06
end
section
namespace Go.Am.F10
open Go.Am.F06 (SU uC_len uC_set uC_one)
variable {X : Type}
theorem wrap64_b (z : Int) : W64 (IntKind.u64.wrap z) := by rw [wrap64]; unfold W64; omega
structure OkF (c : Cf) (xs : List Int) : Prop where
  at' : ∀ p, thereP c p → sz (xs.getD (addrA c p 0).toNat 0) ≤ c.q
theorem addr_ne {c : Cf} {p p' i : Int} (hp : thereP c p) (hp' : thereP c p') (h0 : 1 ≤ i) (h1 : i < 6 + c.q) : (addrA c p i).toNat ≠ (addrA c p' 0).toNat := by
  have hb := there_bounds hp
  have hb' := there_bounds hp'
  have hm := mul_bounds hb.2.2.2.2.1 hb.2.2.2.2.2 (q := 6 + c.q) (by omega) (by omega)
  have hm' := mul_bounds hb'.2.2.2.2.1 hb'.2.2.2.2.2 (q := 6 + c.q) (by omega) (by omega)
  unfold addrA; rw [if_pos hp, if_pos hp']
  rcases (show p < p' ∨ p = p' ∨ p' < p by omega) with h | h | h
  · have h2 : (p + 1) * (6 + c.q) ≤ p' * (6 + c.q) := Int.mul_le_mul_of_nonneg_right (by omega) (by omega)
    have h3 : (p + 1) * (6 + c.q) = p * (6 + c.q) + (6 + c.q) := by rw [Int.add_mul, Int.one_mul]
    omega
  · subst h; omega
  · have h2 : p' * (6 + c.q) ≤ p * (6 + c.q) := Int.mul_le_mul_of_nonneg_right (by omega) (by omega)
    omega
structure FS (m0 : Mem X) (c : Cf) (q0 : Nat) (xs : List Int) (m : Mem X) : Prop where
  keep : Keep m0 m
  box : m[m0.length]? = some (.cells 6 false (cfC c))
  out : m[q0]? = some (.cells 1 false (uC xs))
  len : xs.length = cellsN c
  ok : ∀ x, x ∈ xs → W64 x
  lt : m0.length < q0
  full : OkF c xs
theorem FS.app {m0 m : Mem X} {c : Cf} {q0 : Nat} {xs : List Int} (h : FS m0 c q0 xs m) (K : Mem X) : FS m0 c q0 xs (m ++ K) :=
  ⟨h.keep.trans (Keep.app _ _), (Keep.app m K).get h.box, (Keep.app m K).get h.out, h.len, h.ok, h.lt, h.full⟩
def OkL (c : Cf) (xs : List Int) : Prop := xs.length = cellsN c ∧ ∀ x, x ∈ xs → W64 x
theorem OkL.set {c : Cf} {xs : List Int} (h : OkL c xs) (a : Nat) {v : Int} (hv : W64 v) : OkL c (xs.set a v) := by
  refine ⟨by rw [List.length_set]; exact h.1, fun x hx => ?_⟩
  rcases List.mem_or_eq_of_mem_set hx with hx | rfl
  · exact h.2 x hx
  · exact hv
theorem FS.okL {m0 m : Mem X} {c : Cf} {q0 : Nat} {xs : List Int} (h : FS m0 c q0 xs m) : OkL c xs := ⟨h.len, h.ok⟩
theorem FS.all {m0 m : Mem X} {c : Cf} {q0 : Nat} {xs xs' : List Int} (h : FS m0 c q0 xs m) (hx : OkL c xs') (hf : OkF c xs') (K : Mem X) : FS m0 c q0 xs' (m.set q0 (.cells 1 false (uC xs')) ++ K) := by
  refine FS.app ⟨h.keep.set (by have := h.lt; omega) _, ?_, List.getElem?_set_self (List.getElem?_eq_some_iff.1 h.out).1, hx.1, hx.2, h.lt, hf⟩ K
  rw [List.getElem?_set_ne (by have := h.lt; omega)]; exact h.box
end Go.Am.F10
end
section
namespace Go.Am.F10
open Go.Am.F06
structure RelM (xs : List Int) (o : Int) (s : MemSt) : Prop where
  cells : s.cells = xs
  ops : s.ops = o
  log : s.log.length ≤ 256
theorem RelM.new (n : Int) : RelM (List.replicate (bN n) 0) 0 (newSt n) := ⟨rfl, rfl, by simp [newSt]⟩
theorem getD_set {xs : List Int} {a : Nat} (h : a < xs.length) : xs.set a (xs.getD a 0) = xs := by
  apply List.ext_getElem?
  intro j
  by_cases hj : a = j
  · subst hj
    rw [List.getElem?_set_self h, List.getD_eq_getElem?_getD, List.getElem?_eq_getElem h]; rfl
  · rw [List.getElem?_set_ne hj]
theorem RelM.acc {xs : List Int} {o : Int} {s : MemSt} (h : RelM xs o s) {a : Nat} (ha : a < xs.length) (k : Int) (g : Int → Int × Bool) :
    ∃ s', accS k g s a = some (xs.getD a 0, (g (xs.getD a 0)).2, s') ∧ RelM (xs.set a (g (xs.getD a 0)).1) (IntKind.u64.wrap (o + 1)) s' := by
  obtain ⟨rfl, rfl, hl⟩ := h
  refine ⟨noted { s with cells := s.cells.set a (g (s.cells.getD a 0)).1 } ⟨k, a, s.cells.getD a 0, (g (s.cells.getD a 0)).1⟩ (g (s.cells.getD a 0)).2, ?_, rfl, rfl, ?_⟩
  · unfold accS
    rw [if_pos hl, if_pos (by omega), Int.toNat_natCast]
  · show (logMore _ _).2.length ≤ 256
    unfold logMore
    split
    · rename_i h2; simp only [List.length_append, List.length_cons, List.length_nil]; simp only at h2; omega
    · simp only [List.length_append, List.length_drop, List.length_cons, List.length_nil]; omega
theorem RelM.load {M : MM} {j : Nat} {xs : List Int} {o : Int} {s : MemSt} (h : RelM xs o s) (hM : M[j]? = some (.abs (.mem s))) {a : Nat} (ha : a < xs.length) :
    ∃ s', memF loadS [.ptr j 0, .int .i64 a] M = some (.int .u64 (xs.getD a 0), M.set j (.abs (.mem s'))) ∧ RelM xs (IntKind.u64.wrap (o + 1)) s' := by
  obtain ⟨s', h1, h2⟩ := h.acc ha 1 (fun w => (w, true))
  rw [getD_set ha] at h2
  exact ⟨s', by simp only [memF, hM, loadS, h1, Option.map_some], h2⟩
theorem RelM.store {M : MM} {j : Nat} {xs : List Int} {o : Int} {s : MemSt} (h : RelM xs o s) (hM : M[j]? = some (.abs (.mem s))) {a : Nat} (ha : a < xs.length) (x : Int) :
    ∃ s', memF storeS [.ptr j 0, .int .i64 a, .int .u64 x] M = some (.tup [], M.set j (.abs (.mem s'))) ∧ RelM (xs.set a x) (IntKind.u64.wrap (o + 1)) s' := by
  obtain ⟨s', h1, h2⟩ := h.acc ha 2 (fun w => (x, true))
  exact ⟨s', by simp only [memF, hM, storeS, h1, Option.map_some], h2⟩
def KeepX {X : Type} (j k : Nat) (m m' : Mem X) : Prop := m.length ≤ m'.length ∧ ∀ i, i < m.length → i ≠ j → i ≠ k → m'[i]? = m[i]?
section
variable {X : Type} {j k : Nat}
theorem KeepX.refl (m : Mem X) : KeepX j k m m := ⟨Nat.le_refl _, fun _ _ _ _ => rfl⟩
theorem KeepX.trans {m m' m'' : Mem X} (h : KeepX j k m m') (i : KeepX j k m' m'') : KeepX j k m m'' :=
  ⟨Nat.le_trans h.1 i.1, fun a ha h1 h2 => (i.2 a (Nat.lt_of_lt_of_le ha h.1) h1 h2).trans (h.2 a ha h1 h2)⟩
theorem KeepX.of {m m' : Mem X} (h : Keep m m') : KeepX j k m m' := ⟨h.1, fun i hi _ _ => h.2 i hi⟩
theorem KeepX.setL {m m' : Mem X} (h : KeepX j k m m') (c : Chunk X) : KeepX j k m (m'.set j c) := ⟨by simpa using h.1, fun i hi h1 h2 => by rw [List.getElem?_set_ne (fun h => h1 h.symm)]; exact h.2 i hi h1 h2⟩
theorem KeepX.setR {m m' : Mem X} (h : KeepX j k m m') (c : Chunk X) : KeepX j k m (m'.set k c) := ⟨by simpa using h.1, fun i hi h1 h2 => by rw [List.getElem?_set_ne (fun h => h2 h.symm)]; exact h.2 i hi h1 h2⟩
theorem KeepX.set {m m' : Mem X} (h : KeepX j k m m') {q : Nat} (hq : m.length ≤ q) (c : Chunk X) : KeepX j k m (m'.set q c) := ⟨by simpa using h.1, fun i hi h1 h2 => by rw [List.getElem?_set_ne (by omega)]; exact h.2 i hi h1 h2⟩
theorem KeepX.app {m m' : Mem X} (h : KeepX j k m m') (K : Mem X) : KeepX j k m (m' ++ K) := h.trans (.of (Keep.app _ _))
theorem KeepX.get {m m' : Mem X} (h : KeepX j k m m') {i : Nat} {c : Chunk X} (hi : m[i]? = some c) (h1 : i ≠ j) (h2 : i ≠ k) : m'[i]? = some c := (h.2 i (List.getElem?_eq_some_iff.1 hi).1 h1 h2).trans hi
theorem KeepX.sl {m m' : Mem X} (h : KeepX j k m m') {szj szk : Nat} {wr : Bool} {sz n : Nat} {l : List AV} {v : AV} (hj : ∀ ro L, m[j]? ≠ some (.cells sz ro L)) (hk : ∀ ro L, m[k]? ≠ some (.cells sz ro L)) (hs : Sl m wr sz n l v) : Sl m' wr sz n l v := by
  refine ⟨hs.1, ?_⟩
  rcases hs.2 with h1 | ⟨q, o, cap, h1, h2⟩
  · exact .inl h1
  · refine .inr ⟨q, o, cap, h1, fun h0 => ?_⟩
    obtain ⟨ro, L, h3, h4⟩ := h2 h0
    refine ⟨ro, L, h.get h3 (fun hq => ?_) (fun hq => ?_), h4⟩
    · rw [hq] at h3; exact hj _ _ h3
    · rw [hq] at h3; exact hk _ _ h3
end
end Go.Am.F10
end
section
namespace Go.Am.F10
open Go.Am.F06 (memC slOne)
variable {X : Type}
def Rq (q : Int) (k : Nat) : Prop := (q = 2 ∧ k = 6) ∨ (q = 4 ∧ k = 5) ∨ (q = 8 ∧ k = 4) ∨ (q = 16 ∧ k = 3) ∨ (q = 32 ∧ k = 2) ∨ (q = 64 ∧ k = 1) ∨ (q = 128 ∧ k = 0)
theorem Rq.next {q : Int} {k : Nat} (h : Rq q k) : q = 128 ∨ (2 ≤ q ∧ q ≤ 64 ∧ k - 1 < k ∧ Rq (q * 2) (k - 1)) := by unfold Rq at h ⊢; omega
end Go.Am.F10
end
section
namespace Go.Am.F10
open Go.Am.F06 (memC slOne)
variable {X : Type}
def rgC (c : Cf) (p a w seen got : Int) (has : Bool) (tries : Int) : List AV := cfC c ++ [.int .i64 p, .int .i64 a, .int .u64 w, .int .i64 seen, .int .i64 got, .bool has, .int .i64 tries]
end Go.Am.F10
end
section
namespace Go.Am.F06
end Go.Am.F06
namespace Go.Am.F10
open Go.Am.F06
structure SUN (lo hi : Nat) (m : MM) (wr : Bool) (xs : List Int) (v : AV) : Prop where
  su : SU m wr xs v
  no : ∀ b, lo ≤ b → b < hi → ∀ ro L, m[b]? ≠ some (.cells 1 ro L)
theorem SUN.set {lo hi : Nat} {m : MM} {wr : Bool} {xs : List Int} {v : AV} (h : SUN lo hi m wr xs v) {a : Nat} (h1 : lo ≤ a) (h2 : a < hi) {C : Chunk Ob} (hC : ∀ ro L, C ≠ .cells 1 ro L) : SUN lo hi (m.set a C) wr xs v := by
  refine ⟨(KeepB.at _ _).off (fun q o n c hv h0 hq => ?_) h.su, fun b b1 b2 ro L hb => ?_⟩
  · rcases h.su.2 with ⟨h3, _⟩ | ⟨q2, o2, c2, h3, h4⟩
    · rw [h3] at hv; cases hv
    · rw [h3] at hv; injection hv with e1 e2 e3 e4; subst e1; subst e3; subst hq
      obtain ⟨ro, L, h5, _⟩ := h4 h0
      exact h.no _ h1 h2 _ _ h5
  · by_cases hab : a = b
    · subst hab
      by_cases hl : a < m.length
      · rw [List.getElem?_set_self hl] at hb; injection hb with hb; exact hC _ _ hb
      · rw [List.getElem?_eq_none (by rw [List.length_set]; omega)] at hb; cases hb
    · rw [List.getElem?_set_ne hab] at hb; exact h.no b b1 b2 _ _ hb
structure GS where
  a : Int
  w : Int
  seen : Int
  has : Bool
  tries : Int
def gC (c : Cf) (p : Int) (s : GS) : List AV := getC c p s.a s.w s.seen s.has s.tries
structure GOk (c : Cf) (p : Int) (s : GS) : Prop where
  w : W64 s.w
  a : s.a = 0 ∨ (thereP c p ∧ (s.a = 1 ∨ s.a = 2 ∨ s.a = 3))
  has : s.has = true → s.a = 0
def wrdN (c : Cf) (p : Int) : Nat := (addrA c p 0).toNat
def sltN (c : Cf) (p w : Int) : Nat := (slotA c p (hd w)).toNat
def stepG (c : Cf) (p : Int) (xs : List Int) (s : GS) : GS × List Int :=
  if s.a = 1 then ({ s with w := xs.getD (wrdN c p) 0, a := if sz (xs.getD (wrdN c p) 0) = 0 ∨ c.q < sz (xs.getD (wrdN c p) 0) then 0 else 2 }, xs)
  else if s.a = 2 then ({ s with seen := IntKind.i64.wrap (xs.getD (sltN c p s.w) 0), a := 3 }, xs)
  else if s.a = 3 then if xs.getD (wrdN c p) 0 = s.w then ({ s with has := true, a := 0 }, xs.set (wrdN c p) (gainW s.w)) else ({ s with tries := IntKind.i64.wrap (s.tries + 1), a := 1 }, xs)
  else (s, xs)
def opsG (s : GS) (o : Int) : Int := if s.a = 0 then o else IntKind.u64.wrap (o + 1)
theorem getD_64 {xs : List Int} (h : ∀ x, x ∈ xs → W64 x) (i : Nat) : W64 (xs.getD i 0) := by
  rw [List.getD_eq_getElem?_getD]
  cases hx : xs[i]? with
  | none => unfold W64; simp
  | some x => exact h x (List.mem_of_getElem? hx)
theorem stepG_zero {c : Cf} {p : Int} {s : GS} (h : s.a = 0) (xs : List Int) : stepG c p xs s = (s, xs) := by
  unfold stepG; rw [if_neg (by omega), if_neg (by omega), if_neg (by omega)]
theorem GOk.step {c : Cf} {p : Int} {s : GS} {xs : List Int} (h : GOk c p s) (hx : s.a = 0 ∨ OkL c xs) : GOk c p (stepG c p xs s).1 := by
  rcases hx with h0 | hx
  · rw [stepG_zero h0]; exact h
  obtain ⟨h1, h2, h3⟩ := h
  have hg := getD_64 hx.2 (wrdN c p)
  unfold stepG
  split
  · refine ⟨hg, ?_, fun hh => ?_⟩
    · by_cases hz : sz (xs.getD (wrdN c p) 0) = 0 ∨ c.q < sz (xs.getD (wrdN c p) 0)
      · exact .inl (if_pos hz)
      · refine .inr ⟨?_, .inr (.inl (if_neg hz))⟩
        rcases h2 with h2 | h2
        · omega
        · exact h2.1
    · have := h3 hh; omega
  · split
    · refine ⟨h1, .inr ⟨?_, .inr (.inr rfl)⟩, fun hh => ?_⟩
      · rcases h2 with h2 | h2
        · omega
        · exact h2.1
      · have := h3 hh; omega
    · split
      · split
        · exact ⟨h1, .inl rfl, fun _ => rfl⟩
        · refine ⟨h1, .inr ⟨?_, .inl rfl⟩, fun hh => ?_⟩
          · rcases h2 with h2 | h2
            · omega
            · exact h2.1
          · have := h3 hh; omega
      · exact ⟨h1, h2, h3⟩
end Go.Am.F10
end
section
namespace Go.Am.F10
open Go.Am.F06
theorem memF_app {step : MemSt → List AV → Option (AV × MemSt)} {M : MM} {j : Nat} {s s' : MemSt} {rest : List AV} {v : AV} (h : memF step (.ptr j 0 :: rest) M = some (v, M.set j (.abs (.mem s')))) (hs : M[j]? = some (.abs (.mem s))) (hst : step s rest = some (v, s')) (K : MM) : memF step (.ptr j 0 :: rest) (M ++ K) = some (v, M.set j (.abs (.mem s')) ++ K) := by
  have lj : j < M.length := (List.getElem?_eq_some_iff.1 hs).1
  simp only [memF]
  rw [List.getElem?_append_left lj, hs]
  simp only [hst, List.set_append_left _ _ lj]
theorem RelM.loadE {xs : List Int} {o : Int} {s : MemSt} (h : RelM xs o s) {a : Int} (ha : thr xs a) :
    ∃ s', RelM xs (IntKind.u64.wrap (o + 1)) s' ∧ loadS s [.int .i64 a] = some (.int .u64 (xs.getD a.toNat 0), s') ∧ (∀ (M K : MM) (j : Nat), M[j]? = some (.abs (.mem s)) → memF loadS [.ptr j 0, .int .i64 a] (M ++ K) = some (.int .u64 (xs.getD a.toNat 0), M.set j (.abs (.mem s')) ++ K)) ∧ ∀ (M : MM) (j : Nat), M[j]? = some (.abs (.mem s)) → memF loadS [.ptr j 0, .int .i64 a] M = some (.int .u64 (xs.getD a.toNat 0), M.set j (.abs (.mem s'))) := by
  obtain ⟨k, rfl⟩ : ∃ k : Nat, a = k := ⟨a.toNat, by have := ha.1; omega⟩
  have ha' : k < xs.length := by have := ha.2; omega
  obtain ⟨s', h1, h2⟩ := h.acc ha' 1 (fun w => (w, true))
  rw [getD_set ha'] at h2
  have hs : loadS s [.int .i64 k] = some (.int .u64 (xs.getD k 0), s') := by simp only [loadS, h1, Option.map_some]
  exact ⟨s', h2, hs, fun M K j hM => memF_app (memF_of hM hs) hM hs K, fun M j hM => memF_of hM hs⟩
theorem RelM.storeE {xs : List Int} {o : Int} {s : MemSt} (h : RelM xs o s) {a : Int} (ha : thr xs a) (x : Int) :
    ∃ s', RelM (xs.set a.toNat x) (IntKind.u64.wrap (o + 1)) s' ∧ storeS s [.int .i64 a, .int .u64 x] = some (.tup [], s') ∧ (∀ (M K : MM) (j : Nat), M[j]? = some (.abs (.mem s)) → memF storeS [.ptr j 0, .int .i64 a, .int .u64 x] (M ++ K) = some (.tup [], M.set j (.abs (.mem s')) ++ K)) ∧ ∀ (M : MM) (j : Nat), M[j]? = some (.abs (.mem s)) → memF storeS [.ptr j 0, .int .i64 a, .int .u64 x] M = some (.tup [], M.set j (.abs (.mem s'))) := by
  obtain ⟨k, rfl⟩ : ∃ k : Nat, a = k := ⟨a.toNat, by have := ha.1; omega⟩
  have ha' : k < xs.length := by have := ha.2; omega
  obtain ⟨s', h1, h2⟩ := h.acc ha' 2 (fun w => (x, true))
  have hs : storeS s [.int .i64 k, .int .u64 x] = some (.tup [], s') := by simp only [storeS, h1, Option.map_some]
  exact ⟨s', h2, hs, fun M K j hM => memF_app (memF_of hM hs) hM hs K, fun M j hM => memF_of hM hs⟩
theorem RelM.casE {xs : List Int} {o : Int} {s : MemSt} (h : RelM xs o s) {a : Int} (ha : thr xs a) (x y : Int) :
    ∃ s', RelM (if xs.getD a.toNat 0 = x then xs.set a.toNat y else xs) (IntKind.u64.wrap (o + 1)) s' ∧ casS s [.int .i64 a, .int .u64 x, .int .u64 y] = some (.bool (decide (xs.getD a.toNat 0 = x)), s') ∧ (∀ (M K : MM) (j : Nat), M[j]? = some (.abs (.mem s)) → memF casS [.ptr j 0, .int .i64 a, .int .u64 x, .int .u64 y] (M ++ K) = some (.bool (decide (xs.getD a.toNat 0 = x)), M.set j (.abs (.mem s')) ++ K)) ∧ ∀ (M : MM) (j : Nat), M[j]? = some (.abs (.mem s)) → memF casS [.ptr j 0, .int .i64 a, .int .u64 x, .int .u64 y] M = some (.bool (decide (xs.getD a.toNat 0 = x)), M.set j (.abs (.mem s'))) := by
  obtain ⟨k, rfl⟩ : ∃ k : Nat, a = k := ⟨a.toNat, by have := ha.1; omega⟩
  have ha' : k < xs.length := by have := ha.2; omega
  obtain ⟨s', h1, h2⟩ := h.acc ha' 3 (fun w => if w = x then (y, true) else (w, false))
  have hs : casS s [.int .i64 k, .int .u64 x, .int .u64 y] = some (.bool (decide (xs.getD k 0 = x)), s') := by
    simp only [casS, h1, Option.map_some]
    by_cases hx : xs.getD k 0 = x
    · simp only [if_pos hx, decide_eq_true hx]
    · simp only [if_neg hx, decide_eq_false hx]
  refine ⟨s', ?_, hs, fun M K j hM => memF_app (memF_of hM hs) hM hs K, fun M j hM => memF_of hM hs⟩
  rw [Int.toNat_natCast]
  by_cases hx : xs.getD k 0 = x
  · simp only [if_pos hx] at h2 ⊢; exact h2
  · simp only [if_neg hx, getD_set ha'] at h2 ⊢; exact h2
def GsQ (m : MM) (c : Cf) (p : Int) (j i : Nat) (x : GS × List Int) (o a0 : Int) (r : AV) (m' : MM) : Prop := KeepX j i m m' ∧ r = .int .i64 x.1.a ∧ m'[j]? = some (.cells 12 false (gC c p { x.1 with a := a0 })) ∧ ∃ st', m'[i]? = some (.abs (.mem st')) ∧ RelM x.2 o st'
theorem GsQ.of {m : MM} {c : Cf} {p : Int} {j i : Nat} {x : GS × List Int} {o a0 : Int} {st' : MemSt} {r : AV} {C : List AV} (hij : j ≠ i) (li : i < m.length) (lj : j < m.length) (hr : RelM x.2 o st') (hC : C = gC c p { x.1 with a := a0 }) (hv : r = .int .i64 x.1.a) (K : MM) :
    GsQ m c p j i x o a0 r ((m.set i (.abs (.mem st'))).set j (.cells 12 false C) ++ K) := by
  subst hC
  refine ⟨(((KeepX.refl m).setR _).setL _).app K, hv, ?_, st', ?_, hr⟩
  · rw [List.getElem?_append_left (by simpa using lj), List.getElem?_set_self (by simpa using lj)]
  · rw [List.getElem?_append_left (by simpa using li), List.getElem?_set_ne hij, List.getElem?_set_self li]
end Go.Am.F10
end
section
namespace Go.Am.F10
open Go.Am.F06
theorem _root_.Go.Am.Sl.put {X : Type} {m : Mem X} {wr : Bool} {sz n : Nat} {l : List AV} {v : AV} (h : Sl m wr sz n l v) {b : Nat} (hb : ∀ ro L, m[b]? ≠ some (.cells sz ro L)) (C : Chunk X) : Sl (m.set b C) wr sz n l v := by
  refine ⟨h.1, ?_⟩
  rcases h.2 with h1 | ⟨q, o, cap, h1, h2⟩
  · exact .inl h1
  · refine .inr ⟨q, o, cap, h1, fun h0 => ?_⟩
    obtain ⟨ro, L, h3, h4⟩ := h2 h0
    refine ⟨ro, L, ?_, h4⟩
    rw [List.getElem?_set_ne (fun hq => hb ro L (by rw [hq]; exact h3))]; exact h3
structure Pk where
  d : Bool
  a : Int
  v : Int
def pkC (x : Pk) : List AV := [.bool x.d, .int .i64 x.a, .int .u64 x.v]
abbrev SPk {X : Type} (m : Mem X) (wr : Bool) (es : List Pk) (v : AV) : Prop := Sl m wr 3 es.length (es.flatMap pkC) v
end Go.Am.F10
end
section
namespace Go.Am.F10
open Go.Am.F06
end Go.Am.F10
end
section
namespace Go.Am.F10
variable {X : Type}
def iC (xs : List Int) : List AV := xs.map (AV.int .i64)
theorem iC_at {xs : List Int} {k : Nat} {x : Int} (h : xs[k]? = some x) : (iC xs)[k]? = some (.int .i64 x) := by simp [iC, h]
theorem iC_len (xs : List Int) : (iC xs).length = xs.length := by simp [iC]
theorem iC_one (xs : List Int) : (iC xs).all AV.one = true := by simp [iC, AV.one]
theorem iC_app (xs : List Int) (x : Int) : iC (xs ++ [x]) = iC xs ++ [.int .i64 x] := by simp [iC]
abbrev SI (m : Mem X) (wr : Bool) (xs : List Int) (v : AV) : Prop := Sl m wr 1 xs.length (iC xs) v
theorem SI.val {m : Mem X} {wr : Bool} {xs : List Int} {v : AV} (h : SI m wr xs v) (hn : 0 < xs.length) : ∃ q o cap ro L, v = .sl q o xs.length cap ∧ m[q]? = some (.cells 1 ro L) ∧ (wr = true → ro = false) ∧ o + xs.length ≤ L.length ∧ ∀ (i : Nat) (x : Int), xs[i]? = some x → L[o + i]? = some (.int .i64 x) := by
  obtain ⟨q, o, cap, ro, L, h1, h2, h3, h4, h5⟩ := h.at hn
  refine ⟨q, o, cap, ro, L, h1, h2, h5, by omega, fun i x hx => ?_⟩
  have hi : i < xs.length := (List.getElem?_eq_some_iff.1 hx).1
  rw [sl_get h3 (by omega)]; exact iC_at hx
def MInv (n : Nat) (a b : AV) (xs ys : List Int) (m0 : Mem X) (k : Nat) (e : List AV) (m : Mem X) : Prop := ∃ (i : Nat) (x4 x5 x6 : AV),
  e = [a, b, .bool false, .int .i64 i, x4, x5, x6] ∧ m = m0 ∧ k = n - i ∧ i ≤ n ∧ ∀ j, j < i → xs[j]? = ys[j]?
theorem same_run {m : Mem X} {w1 w2 : Bool} {xs ys : List Int} {a b : AV} (ha : SI m w1 xs a) (hb : SI m w2 ys b) (hx : xs.length < FUEL) : Fn [] kit_SameInts [a, b] m (fun r m' => r = .bool (decide (xs = ys)) ∧ m' = m) := by
  refine Fn_of rfl ?_
  have hF : xs.length < 1099511627776 := hx
  have h1 := ha.len
  have h2 := hb.len
  by_cases hn : xs.length = ys.length
  · rcases Nat.eq_zero_or_pos xs.length with h0 | h0
    · have hx0 : xs = [] := List.length_eq_zero_iff.1 h0
      have hy0 : ys = [] := List.length_eq_zero_iff.1 (by omega)
      rw [hx0] at h1; rw [hy0] at h2
      subst hx0; subst hy0
      simp (disch := first | assumption | omega | (simp only [List.length_cons, List.length_nil, List.length_set, List.length_append] <;> omega) | (simp only [get_mid, get_mid0, List.cons_append, List.append_assoc, List.getElem?_cons_zero, List.getElem?_cons_succ])) only [kit_SameInts, ek, ↓evW, ↓evQ, evB, evS, evL, List.map, AV.cells, List.all, AV.one, Bool.and_true, Bool.true_and, if_true, ↓thenQ_normal, ↓thenQ_exit, ↓thenQ_ret, ↓blockQ_normal, ↓blockQ_ret, ↓blockQ_exit, ↓CW_true, ↓CW_false, CW_true, CW_false, condT, condF, RQ_some, tupA_one, tupA_two, tupA_nil, Nat.reduceSub, Nat.reduceAdd, Nat.reduceMul, Nat.zero_add, Nat.add_zero, Nat.reduceLeDiff, Nat.reduceEqDiff, eqV, eqAll, fillA, and_self, and_true, true_and, Nat.le_refl, Bool.not_true, Bool.not_false, Bool.false_xor, Bool.true_xor, cond_true, cond_false, List.replicate, if_false, reduceIte, resAll, resA, ne_eq, decide_not, decide_true, decide_false, Int.reduceEq, Bool.not_true, Bool.not_false, not_true_eq_false, not_false_eq_true, cond_bool, cond_int, beq_self_eq_true, Int.reduceBEq, Bool.and_self, Bool.and_false, Bool.false_and, Bool.xor_false, Bool.xor_true, loadN_ldC, ldC_none, ldC_somes, stC_aggs, splice, storeN_stC, stC_int, stC_bool, stC_ptr, stC_nilp, stC_sl, stC_nils, getC_gcO, gcO_cells, W_draw_eq, ↓W_scope, ev_clear, evT, evF, evX, evM, ↓exitQ_normal, ↓exitQ_ret, ↓exitQ_exit, saA_self, saO_self, if_pos, if_neg, wrapI, get_concat, set_concat, Int.toNat_natCast, Int.toNat_zero, List.nil_append, Nat.mul_one, decide_eq_true, decide_eq_false, Int.reduceLE, Int.reduceLT, Int.reduceNeg, Bool.false_or, Bool.true_or, Bool.or_false, Bool.or_true, wrapU, Int.reduceAdd, Int.reduceSub, Int.reduceMul, ev_len, h1, h2]
      refine W_loop (fun k e m' => ∃ x4 x5 x6 : AV, e = [a, b, .bool false, .int .i64 0, x4, x5, x6] ∧ m' = m) 0 (by simp [FUEL]) ⟨_, _, _, rfl, rfl⟩ ?_
      rintro k e m' ⟨x4, x5, x6, rfl, rfl⟩
      simp (disch := first | assumption | omega | (simp only [List.length_cons, List.length_nil, List.length_set, List.length_append] <;> omega) | (simp only [get_mid, get_mid0, List.cons_append, List.append_assoc, List.getElem?_cons_zero, List.getElem?_cons_succ])) only [ek, ↓evW, ↓evQ, evB, evS, evL, List.map, AV.cells, List.all, AV.one, Bool.and_true, Bool.true_and, if_true, ↓thenQ_normal, ↓thenQ_exit, ↓thenQ_ret, ↓blockQ_normal, ↓blockQ_ret, ↓blockQ_exit, ↓CW_true, ↓CW_false, CW_true, CW_false, condT, condF, RQ_some, tupA_one, tupA_two, tupA_nil, Nat.reduceSub, Nat.reduceAdd, Nat.reduceMul, Nat.zero_add, Nat.add_zero, Nat.reduceLeDiff, Nat.reduceEqDiff, eqV, eqAll, fillA, and_self, and_true, true_and, Nat.le_refl, Bool.not_true, Bool.not_false, Bool.false_xor, Bool.true_xor, cond_true, cond_false, List.replicate, if_false, reduceIte, resAll, resA, ne_eq, decide_not, decide_true, decide_false, Int.reduceEq, Bool.not_true, Bool.not_false, not_true_eq_false, not_false_eq_true, cond_bool, cond_int, beq_self_eq_true, Int.reduceBEq, Bool.and_self, Bool.and_false, Bool.false_and, Bool.xor_false, Bool.xor_true, loadN_ldC, ldC_none, ldC_somes, stC_aggs, splice, storeN_stC, stC_int, stC_bool, stC_ptr, stC_nilp, stC_sl, stC_nils, getC_gcO, gcO_cells, W_draw_eq, ↓W_scope, ev_clear, evT, evF, evX, evM, ↓exitQ_normal, ↓exitQ_ret, ↓exitQ_exit, saA_self, saO_self, if_pos, if_neg, wrapI, get_concat, set_concat, Int.toNat_natCast, Int.toNat_zero, List.nil_append, Nat.mul_one, decide_eq_true, decide_eq_false, Int.reduceLE, Int.reduceLT, Int.reduceNeg, Bool.false_or, Bool.true_or, Bool.or_false, Bool.or_true, wrapU, Int.reduceAdd, Int.reduceSub, Int.reduceMul, ev_len, h1]
    · obtain ⟨q, o, cap, ro, L, rfl, hq, _, hL, hat⟩ := ha.val h0
      obtain ⟨q', o', cap', ro', L', rfl, hq', _, hL', hat'⟩ := hb.val (by omega)
      simp (disch := first | assumption | omega | (simp only [List.length_cons, List.length_nil, List.length_set, List.length_append] <;> omega) | (simp only [get_mid, get_mid0, List.cons_append, List.append_assoc, List.getElem?_cons_zero, List.getElem?_cons_succ])) only [kit_SameInts, ek, ↓evW, ↓evQ, evB, evS, evL, List.map, AV.cells, List.all, AV.one, Bool.and_true, Bool.true_and, if_true, ↓thenQ_normal, ↓thenQ_exit, ↓thenQ_ret, ↓blockQ_normal, ↓blockQ_ret, ↓blockQ_exit, ↓CW_true, ↓CW_false, CW_true, CW_false, condT, condF, RQ_some, tupA_one, tupA_two, tupA_nil, Nat.reduceSub, Nat.reduceAdd, Nat.reduceMul, Nat.zero_add, Nat.add_zero, Nat.reduceLeDiff, Nat.reduceEqDiff, eqV, eqAll, fillA, and_self, and_true, true_and, Nat.le_refl, Bool.not_true, Bool.not_false, Bool.false_xor, Bool.true_xor, cond_true, cond_false, List.replicate, if_false, reduceIte, resAll, resA, ne_eq, decide_not, decide_true, decide_false, Int.reduceEq, Bool.not_true, Bool.not_false, not_true_eq_false, not_false_eq_true, cond_bool, cond_int, beq_self_eq_true, Int.reduceBEq, Bool.and_self, Bool.and_false, Bool.false_and, Bool.xor_false, Bool.xor_true, loadN_ldC, ldC_none, ldC_somes, stC_aggs, splice, storeN_stC, stC_int, stC_bool, stC_ptr, stC_nilp, stC_sl, stC_nils, getC_gcO, gcO_cells, W_draw_eq, ↓W_scope, ev_clear, evT, evF, evX, evM, ↓exitQ_normal, ↓exitQ_ret, ↓exitQ_exit, saA_self, saO_self, if_pos, if_neg, wrapI, get_concat, set_concat, Int.toNat_natCast, Int.toNat_zero, List.nil_append, Nat.mul_one, decide_eq_true, decide_eq_false, Int.reduceLE, Int.reduceLT, Int.reduceNeg, Bool.false_or, Bool.true_or, Bool.or_false, Bool.or_true, wrapU, Int.reduceAdd, Int.reduceSub, Int.reduceMul]
      refine W_loop (MInv xs.length (.sl q o xs.length cap) (.sl q' o' ys.length cap') xs ys m) xs.length hx ⟨0, _, _, _, rfl, rfl, rfl, Nat.zero_le _, fun j hj => by omega⟩ ?_
      rintro k e m' ⟨i, x4, x5, x6, rfl, rfl, rfl, hi, heq⟩
      simp (disch := first | assumption | omega | (simp only [List.length_cons, List.length_nil, List.length_set, List.length_append] <;> omega) | (simp only [get_mid, get_mid0, List.cons_append, List.append_assoc, List.getElem?_cons_zero, List.getElem?_cons_succ])) only [ek, ↓evW, ↓evQ, evB, evS, evL, List.map, AV.cells, List.all, AV.one, Bool.and_true, Bool.true_and, if_true, ↓thenQ_normal, ↓thenQ_exit, ↓thenQ_ret, ↓blockQ_normal, ↓blockQ_ret, ↓blockQ_exit, ↓CW_true, ↓CW_false, CW_true, CW_false, condT, condF, RQ_some, tupA_one, tupA_two, tupA_nil, Nat.reduceSub, Nat.reduceAdd, Nat.reduceMul, Nat.zero_add, Nat.add_zero, Nat.reduceLeDiff, Nat.reduceEqDiff, eqV, eqAll, fillA, and_self, and_true, true_and, Nat.le_refl, Bool.not_true, Bool.not_false, Bool.false_xor, Bool.true_xor, cond_true, cond_false, List.replicate, if_false, reduceIte, resAll, resA, ne_eq, decide_not, decide_true, decide_false, Int.reduceEq, Bool.not_true, Bool.not_false, not_true_eq_false, not_false_eq_true, cond_bool, cond_int, beq_self_eq_true, Int.reduceBEq, Bool.and_self, Bool.and_false, Bool.false_and, Bool.xor_false, Bool.xor_true, loadN_ldC, ldC_none, ldC_somes, stC_aggs, splice, storeN_stC, stC_int, stC_bool, stC_ptr, stC_nilp, stC_sl, stC_nils, getC_gcO, gcO_cells, W_draw_eq, ↓W_scope, ev_clear, evT, evF, evX, evM, ↓exitQ_normal, ↓exitQ_ret, ↓exitQ_exit, saA_self, saO_self, if_pos, if_neg, wrapI, get_concat, set_concat, Int.toNat_natCast, Int.toNat_zero, List.nil_append, Nat.mul_one, decide_eq_true, decide_eq_false, Int.reduceLE, Int.reduceLT, Int.reduceNeg, Bool.false_or, Bool.true_or, Bool.or_false, Bool.or_true, wrapU, Int.reduceAdd, Int.reduceSub, Int.reduceMul]
      refine CW_of (fun h => ?_) (fun h => ?_)
      · simp only [decide_eq_true_eq] at h
        obtain ⟨x, hxi⟩ : ∃ x, xs[i]? = some x := ⟨_, List.getElem?_eq_getElem (by omega)⟩
        obtain ⟨y, hyi⟩ : ∃ y, ys[i]? = some y := ⟨_, List.getElem?_eq_getElem (by omega)⟩
        simp (disch := first | assumption | omega | (simp only [List.length_cons, List.length_nil, List.length_set, List.length_append] <;> omega) | (simp only [get_mid, get_mid0, List.cons_append, List.append_assoc, List.getElem?_cons_zero, List.getElem?_cons_succ])) only [ek, ↓evW, ↓evQ, evB, evS, evL, List.map, AV.cells, List.all, AV.one, Bool.and_true, Bool.true_and, if_true, ↓thenQ_normal, ↓thenQ_exit, ↓thenQ_ret, ↓blockQ_normal, ↓blockQ_ret, ↓blockQ_exit, ↓CW_true, ↓CW_false, CW_true, CW_false, condT, condF, RQ_some, tupA_one, tupA_two, tupA_nil, Nat.reduceSub, Nat.reduceAdd, Nat.reduceMul, Nat.zero_add, Nat.add_zero, Nat.reduceLeDiff, Nat.reduceEqDiff, eqV, eqAll, fillA, and_self, and_true, true_and, Nat.le_refl, Bool.not_true, Bool.not_false, Bool.false_xor, Bool.true_xor, cond_true, cond_false, List.replicate, if_false, reduceIte, resAll, resA, ne_eq, decide_not, decide_true, decide_false, Int.reduceEq, Bool.not_true, Bool.not_false, not_true_eq_false, not_false_eq_true, cond_bool, cond_int, beq_self_eq_true, Int.reduceBEq, Bool.and_self, Bool.and_false, Bool.false_and, Bool.xor_false, Bool.xor_true, loadN_ldC, ldC_none, ldC_somes, stC_aggs, splice, storeN_stC, stC_int, stC_bool, stC_ptr, stC_nilp, stC_sl, stC_nils, getC_gcO, gcO_cells, W_draw_eq, ↓W_scope, ev_clear, evT, evF, evX, evM, ↓exitQ_normal, ↓exitQ_ret, ↓exitQ_exit, saA_self, saO_self, if_pos, if_neg, wrapI, get_concat, set_concat, Int.toNat_natCast, Int.toNat_zero, List.nil_append, Nat.mul_one, decide_eq_true, decide_eq_false, Int.reduceLE, Int.reduceLT, Int.reduceNeg, Bool.false_or, Bool.true_or, Bool.or_false, Bool.or_true, wrapU, Int.reduceAdd, Int.reduceSub, Int.reduceMul, hq, hq', hat i x hxi, hat' i y hyi]
        by_cases hxy : x = y
        · subst hxy
          simp (disch := first | assumption | omega | (simp only [List.length_cons, List.length_nil, List.length_set, List.length_append] <;> omega) | (simp only [get_mid, get_mid0, List.cons_append, List.append_assoc, List.getElem?_cons_zero, List.getElem?_cons_succ])) only [ek, ↓evW, ↓evQ, evB, evS, evL, List.map, AV.cells, List.all, AV.one, Bool.and_true, Bool.true_and, if_true, ↓thenQ_normal, ↓thenQ_exit, ↓thenQ_ret, ↓blockQ_normal, ↓blockQ_ret, ↓blockQ_exit, ↓CW_true, ↓CW_false, CW_true, CW_false, condT, condF, RQ_some, tupA_one, tupA_two, tupA_nil, Nat.reduceSub, Nat.reduceAdd, Nat.reduceMul, Nat.zero_add, Nat.add_zero, Nat.reduceLeDiff, Nat.reduceEqDiff, eqV, eqAll, fillA, and_self, and_true, true_and, Nat.le_refl, Bool.not_true, Bool.not_false, Bool.false_xor, Bool.true_xor, cond_true, cond_false, List.replicate, if_false, reduceIte, resAll, resA, ne_eq, decide_not, decide_true, decide_false, Int.reduceEq, Bool.not_true, Bool.not_false, not_true_eq_false, not_false_eq_true, cond_bool, cond_int, beq_self_eq_true, Int.reduceBEq, Bool.and_self, Bool.and_false, Bool.false_and, Bool.xor_false, Bool.xor_true, loadN_ldC, ldC_none, ldC_somes, stC_aggs, splice, storeN_stC, stC_int, stC_bool, stC_ptr, stC_nilp, stC_sl, stC_nils, getC_gcO, gcO_cells, W_draw_eq, ↓W_scope, ev_clear, evT, evF, evX, evM, ↓exitQ_normal, ↓exitQ_ret, ↓exitQ_exit, saA_self, saO_self, if_pos, if_neg, wrapI, get_concat, set_concat, Int.toNat_natCast, Int.toNat_zero, List.nil_append, Nat.mul_one, decide_eq_true, decide_eq_false, Int.reduceLE, Int.reduceLT, Int.reduceNeg, Bool.false_or, Bool.true_or, Bool.or_false, Bool.or_true, wrapU, Int.reduceAdd, Int.reduceSub, Int.reduceMul]
          refine ⟨_, by omega, i + 1, _, _, _, rfl, rfl, rfl, by omega, fun j hj => ?_⟩
          by_cases hji : j = i
          · subst hji; rw [hxi, hyi]
          · exact heq j (by omega)
        · simp (disch := first | assumption | omega | (simp only [List.length_cons, List.length_nil, List.length_set, List.length_append] <;> omega) | (simp only [get_mid, get_mid0, List.cons_append, List.append_assoc, List.getElem?_cons_zero, List.getElem?_cons_succ])) only [ek, ↓evW, ↓evQ, evB, evS, evL, List.map, AV.cells, List.all, AV.one, Bool.and_true, Bool.true_and, if_true, ↓thenQ_normal, ↓thenQ_exit, ↓thenQ_ret, ↓blockQ_normal, ↓blockQ_ret, ↓blockQ_exit, ↓CW_true, ↓CW_false, CW_true, CW_false, condT, condF, RQ_some, tupA_one, tupA_two, tupA_nil, Nat.reduceSub, Nat.reduceAdd, Nat.reduceMul, Nat.zero_add, Nat.add_zero, Nat.reduceLeDiff, Nat.reduceEqDiff, eqV, eqAll, fillA, and_self, and_true, true_and, Nat.le_refl, Bool.not_true, Bool.not_false, Bool.false_xor, Bool.true_xor, cond_true, cond_false, List.replicate, if_false, reduceIte, resAll, resA, ne_eq, decide_not, decide_true, decide_false, Int.reduceEq, Bool.not_true, Bool.not_false, not_true_eq_false, not_false_eq_true, cond_bool, cond_int, beq_self_eq_true, Int.reduceBEq, Bool.and_self, Bool.and_false, Bool.false_and, Bool.xor_false, Bool.xor_true, loadN_ldC, ldC_none, ldC_somes, stC_aggs, splice, storeN_stC, stC_int, stC_bool, stC_ptr, stC_nilp, stC_sl, stC_nils, getC_gcO, gcO_cells, W_draw_eq, ↓W_scope, ev_clear, evT, evF, evX, evM, ↓exitQ_normal, ↓exitQ_ret, ↓exitQ_exit, saA_self, saO_self, if_pos, if_neg, wrapI, get_concat, set_concat, Int.toNat_natCast, Int.toNat_zero, List.nil_append, Nat.mul_one, decide_eq_true, decide_eq_false, Int.reduceLE, Int.reduceLT, Int.reduceNeg, Bool.false_or, Bool.true_or, Bool.or_false, Bool.or_true, wrapU, Int.reduceAdd, Int.reduceSub, Int.reduceMul, hxy]
          have : ¬ xs = ys := fun h => by rw [h, hyi] at hxi; injection hxi with hxi; exact hxy hxi.symm
          simp [this]
      · simp only [decide_eq_false_iff_not] at h
        simp (disch := first | assumption | omega | (simp only [List.length_cons, List.length_nil, List.length_set, List.length_append] <;> omega) | (simp only [get_mid, get_mid0, List.cons_append, List.append_assoc, List.getElem?_cons_zero, List.getElem?_cons_succ])) only [ek, ↓evW, ↓evQ, evB, evS, evL, List.map, AV.cells, List.all, AV.one, Bool.and_true, Bool.true_and, if_true, ↓thenQ_normal, ↓thenQ_exit, ↓thenQ_ret, ↓blockQ_normal, ↓blockQ_ret, ↓blockQ_exit, ↓CW_true, ↓CW_false, CW_true, CW_false, condT, condF, RQ_some, tupA_one, tupA_two, tupA_nil, Nat.reduceSub, Nat.reduceAdd, Nat.reduceMul, Nat.zero_add, Nat.add_zero, Nat.reduceLeDiff, Nat.reduceEqDiff, eqV, eqAll, fillA, and_self, and_true, true_and, Nat.le_refl, Bool.not_true, Bool.not_false, Bool.false_xor, Bool.true_xor, cond_true, cond_false, List.replicate, if_false, reduceIte, resAll, resA, ne_eq, decide_not, decide_true, decide_false, Int.reduceEq, Bool.not_true, Bool.not_false, not_true_eq_false, not_false_eq_true, cond_bool, cond_int, beq_self_eq_true, Int.reduceBEq, Bool.and_self, Bool.and_false, Bool.false_and, Bool.xor_false, Bool.xor_true, loadN_ldC, ldC_none, ldC_somes, stC_aggs, splice, storeN_stC, stC_int, stC_bool, stC_ptr, stC_nilp, stC_sl, stC_nils, getC_gcO, gcO_cells, W_draw_eq, ↓W_scope, ev_clear, evT, evF, evX, evM, ↓exitQ_normal, ↓exitQ_ret, ↓exitQ_exit, saA_self, saO_self, if_pos, if_neg, wrapI, get_concat, set_concat, Int.toNat_natCast, Int.toNat_zero, List.nil_append, Nat.mul_one, decide_eq_true, decide_eq_false, Int.reduceLE, Int.reduceLT, Int.reduceNeg, Bool.false_or, Bool.true_or, Bool.or_false, Bool.or_true, wrapU, Int.reduceAdd, Int.reduceSub, Int.reduceMul]
        have : xs = ys := List.ext_getElem? fun j => by
          by_cases hj : j < i
          · exact heq j hj
          · rw [List.getElem?_eq_none (by omega), List.getElem?_eq_none (by omega)]
        simp [this]
  · have hne : ¬ ((xs.length : Int) = ys.length) := by omega
    have : ¬ xs = ys := fun h => hn (by rw [h])
    simp (disch := first | assumption | omega | (simp only [List.length_cons, List.length_nil, List.length_set, List.length_append] <;> omega) | (simp only [get_mid, get_mid0, List.cons_append, List.append_assoc, List.getElem?_cons_zero, List.getElem?_cons_succ])) only [kit_SameInts, ek, ↓evW, ↓evQ, evB, evS, evL, List.map, AV.cells, List.all, AV.one, Bool.and_true, Bool.true_and, if_true, ↓thenQ_normal, ↓thenQ_exit, ↓thenQ_ret, ↓blockQ_normal, ↓blockQ_ret, ↓blockQ_exit, ↓CW_true, ↓CW_false, CW_true, CW_false, condT, condF, RQ_some, tupA_one, tupA_two, tupA_nil, Nat.reduceSub, Nat.reduceAdd, Nat.reduceMul, Nat.zero_add, Nat.add_zero, Nat.reduceLeDiff, Nat.reduceEqDiff, eqV, eqAll, fillA, and_self, and_true, true_and, Nat.le_refl, Bool.not_true, Bool.not_false, Bool.false_xor, Bool.true_xor, cond_true, cond_false, List.replicate, if_false, reduceIte, resAll, resA, ne_eq, decide_not, decide_true, decide_false, Int.reduceEq, Bool.not_true, Bool.not_false, not_true_eq_false, not_false_eq_true, cond_bool, cond_int, beq_self_eq_true, Int.reduceBEq, Bool.and_self, Bool.and_false, Bool.false_and, Bool.xor_false, Bool.xor_true, loadN_ldC, ldC_none, ldC_somes, stC_aggs, splice, storeN_stC, stC_int, stC_bool, stC_ptr, stC_nilp, stC_sl, stC_nils, getC_gcO, gcO_cells, W_draw_eq, ↓W_scope, ev_clear, evT, evF, evX, evM, ↓exitQ_normal, ↓exitQ_ret, ↓exitQ_exit, saA_self, saO_self, if_pos, if_neg, wrapI, get_concat, set_concat, Int.toNat_natCast, Int.toNat_zero, List.nil_append, Nat.mul_one, decide_eq_true, decide_eq_false, Int.reduceLE, Int.reduceLT, Int.reduceNeg, Bool.false_or, Bool.true_or, Bool.or_false, Bool.or_true, wrapU, Int.reduceAdd, Int.reduceSub, Int.reduceMul, ev_len, h1, h2, hne, this]
theorem _root_.Go.Am.Own.si {m0 m : Mem X} {xs : List Int} {v : AV} (h : Own m0 m 1 xs.length (iC xs) v) : SI m true xs v ∧ Fr m0.length v := Own.sl h (by rw [iC_len]; omega)
theorem _root_.Go.Am.Own.val1 {m0 m : Mem X} {xs : List Int} {v : AV} (h : Own m0 m 1 xs.length (iC xs) v) : v.one = true := by
  rcases h with ⟨_, _, rfl⟩ | ⟨q, rfl, _⟩ <;> rfl
theorem _root_.Go.Am.Own.more {m0 m : Mem X} {n : Nat} {l : List AV} {lv : AV} (h : Own m0 m 1 n l lv) (K : Mem X) : Own m0 (m ++ K) 1 n l lv := by
  rcases h with h | ⟨q, h1, h2, h3, h4⟩
  · exact .inl h
  · exact .inr ⟨q, h1, by rw [List.getElem?_append_left h4]; exact h2, h3, by rw [List.length_append]; omega⟩
theorem _root_.Go.Am.Own.keep {m0 m m' : Mem X} {n : Nat} {l : List AV} {lv : AV} (h : Own m0 m 1 n l lv) (hk : ∀ q C, m0.length ≤ q → m[q]? = some (.cells 1 false C) → m'[q]? = some (.cells 1 false C)) : Own m0 m' 1 n l lv := by
  rcases h with h | ⟨q, h1, h2, h3, h4⟩
  · exact .inl h
  · have := hk q _ h3 h2
    exact .inr ⟨q, h1, this, h3, (List.getElem?_eq_some_iff.1 this).1⟩
def Nx (m : Mem X) (v : AV) : Prop := v = .nils ∨ ∃ q o n l, v = .sl q o n none ∧ m[q]? = some (.cells 1 false l)
theorem _root_.Go.Am.Own.nx {m0 m : Mem X} {n : Nat} {l : List AV} {v : AV} (h : Own m0 m 1 n l v) : Nx m v := by
  rcases h with ⟨_, _, rfl⟩ | ⟨q, rfl, h1, _⟩
  · exact .inl rfl
  · exact .inr ⟨_, _, _, _, rfl, h1⟩
theorem _root_.Go.Am.Own.base {m0 m1 m : Mem X} {n : Nat} {l : List AV} {v : AV} (h : Own m1 m 1 n l v) (hl : m0.length ≤ m1.length) : Own m0 m 1 n l v := by
  rcases h with h | ⟨q, h1, h2, h3, h4⟩
  · exact .inl h
  · exact .inr ⟨q, h1, h2, by omega, h4⟩
theorem own_push {m0 m : Mem X} {xs : List Int} {v : AV} (h : Own m0 m 1 xs.length (iC xs) v) (x : Int) (hl : xs.length ≤ 100000) (hm : m0.length ≤ m.length) :
    ∃ v' m', appendA 1 8 v (.sl m.length 0 1 (some 1)) (m ++ [.cells 1 false [.int .i64 x]]) = some (v', m') ∧ Own m0 m' 1 (xs ++ [x]).length (iC (xs ++ [x])) v' ∧ m.length ≤ m'.length ∧ (∀ i, i < m.length → (∀ ro L, m[i]? ≠ some (.cells 1 ro L)) ∨ i < m0.length → m'[i]? = m[i]?) := by
  have hx : (m ++ [Chunk.cells 1 false [.int .i64 x]])[m.length]? = some (.cells 1 false [.int .i64 x]) := get_concat
  rw [iC_app, List.length_append]
  rcases h with ⟨h1, h2, rfl⟩ | ⟨q, rfl, hq, h2, h3⟩
  · have hxs : xs = [] := List.length_eq_zero_iff.1 h1
    subst hxs
    refine ⟨_, _, append_nils hx rfl rfl (by decide), .inr ⟨_, rfl, get_concat, by simp <;> omega, by simp⟩, by simp <;> omega, fun i hi _ => ?_⟩
    rw [List.getElem?_append_left (by simp <;> omega), List.getElem?_append_left hi]
  · have hq' : (m ++ [Chunk.cells 1 false [.int .i64 x]])[q]? = some (.cells 1 false (iC xs)) := by rw [List.getElem?_append_left h3]; exact hq
    refine ⟨_, _, append_none hq' (by rw [iC_len]; omega) hx rfl (iC_one _) rfl (by omega) (by omega), .inr ⟨_, rfl, ?_, by simp <;> omega, by simp⟩, by simp <;> omega, fun i hi ho => ?_⟩
    · have : (m ++ [Chunk.cells 1 false [AV.int .i64 x]]).length = ((m ++ [Chunk.cells 1 false [AV.int .i64 x]]).set q .dead).length := by simp
      rw [this, get_concat]
    · have hqi : q ≠ i := by
        rintro rfl
        rcases ho with ho | ho
        · exact ho _ _ hq
        · omega
      rw [List.getElem?_append_left (by simp <;> omega), List.getElem?_set_ne hqi, List.getElem?_append_left hi]
end Go.Am.F10
end
