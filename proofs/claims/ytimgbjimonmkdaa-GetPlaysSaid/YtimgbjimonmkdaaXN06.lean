import Derived.Test.YtimgbjimonmkdaaXM06
set_option linter.unusedSimpArgs false
set_option linter.unusedVariables false
namespace Go.Am.F06
def memNF (step : MemSt → List AV → Option ((Nat → AV) × MemSt × Nat × List AV)) : AFun Ob := fun args m =>
  match args with
  | .ptr i 0 :: rest => match m[i]? with
    | some (.abs (.mem s)) => match step s rest with
      | some (mk, s', sz, L) => some (mk m.length, m.set i (.abs (.mem s')) ++ [.cells sz false L])
      | none => none
    | _ => none
  | _ => none
theorem memN_fold {f : AFun Ob} {step : MemSt → List AV → Option ((Nat → AV) × MemSt × Nat × List AV)} (h : ∀ (m : MM) (i : Nat) (rest : List AV) (s s' : MemSt) (mk : Nat → AV) (sz : Nat) (L : List AV), i < m.length → step s rest = some (mk, s', sz, L) →
    (∀ ρ, AV.renL ρ L = some L) ∧ ∃ v0 mh k1 k2 q, f (.ptr i 0 :: rest) (m.set i (plM (.mem s) i m.length).1 ++ (plM (.mem s) i m.length).2) = some (v0, mh) ∧ AV.ren (rhoN m.length q) v0 = some (mk m.length) ∧ m.length ≤ q ∧ q ≠ k1 ∧ q ≠ k2 ∧ mh[q]? = some (.cells sz false L) ∧
      m.length ≤ mh.length ∧ (∀ j, j < m.length → j ≠ i → mh[j]? = m[j]?) ∧ m.length ≤ k1 ∧ m.length ≤ k2 ∧ k1 ≠ k2 ∧ MemAt mh i k1 k2 s') :
    Fold concM (unf 0 plM f) (memNF step) := by
  intro args m v m' hg
  unfold memNF at hg
  split at hg
  case h_2 => cases hg
  rename_i i rest
  split at hg
  case h_2 => cases hg
  rename_i s hs
  split at hg
  case h_2 => cases hg
  rename_i mk s' sz L hst
  simp only [Option.some.injEq, Prod.mk.injEq] at hg
  obtain ⟨rfl, rfl⟩ := hg
  have hi : i < m.length := (List.getElem?_eq_some_iff.1 hs).1
  obtain ⟨hL, v0, mh, k1, k2, q, h1, hv, hq, hq1, hq2, hqc, h2, h3, h4, h5, h6, h7⟩ := h m i rest s s' mk sz L hi hst
  exact fold_memN hi (by simp only [unf, List.getElem?_cons_zero, hs]; exact h1) hv hq hq1 hq2 hqc hL h3 h4 h5 h6 h7
set_option maxHeartbeats 4000000 in
theorem clone_nil {M : MM} {q o : Nat} {cap : Option Nat} : c_slices_Clone_uint64 [.sl q o 0 cap] M = some (.sl M.length 0 0 (some 0), M ++ [.cells 1 false []]) := by
  refine Fn_eq (Fn_of rfl ?_)
  have hlit : ∀ M : MM, amOp [] (.lit 0 1 [.int .u64 0] []) [] M = some (.sl M.length 0 0 (some 0), M ++ [.cells 1 false []]) := fun M => rfl
  have ha : ∀ M2 : MM, appendA 1 8 (.sl M.length 0 0 (some 0)) (.sl q o 0 cap) M2 = some (.sl M.length 0 0 (some 0), M2) := fun M2 => by simp [appendA, lenA, rowOf]
  simp (disch := first | assumption | omega | (simp only [List.length_cons, List.length_nil, List.length_set, List.length_append] <;> omega) | (simp only [get_mid, get_mid0, List.cons_append, List.append_assoc, List.getElem?_cons_zero, List.getElem?_cons_succ])) only [slices_Clone_uint64, ek, ↓evW, ↓evQ, evB, evS, evL, List.map, AV.cells, List.all, AV.one, Bool.and_true, Bool.true_and, if_true, ↓thenQ_normal, ↓thenQ_exit, ↓thenQ_ret, ↓blockQ_normal, ↓blockQ_ret, ↓blockQ_exit, ↓CW_true, ↓CW_false, CW_true, CW_false, condT, condF, RQ_some, tupA_one, tupA_two, tupA_nil, Nat.reduceSub, Nat.reduceAdd, Nat.reduceMul, Nat.zero_add, Nat.add_zero, Nat.reduceLeDiff, Nat.reduceEqDiff, eqV, eqAll, fillA, and_self, and_true, true_and, Nat.le_refl, Bool.not_true, Bool.not_false, Bool.false_xor, Bool.true_xor, cond_true, cond_false, List.replicate, if_false, reduceIte, resAll, resA, ne_eq, decide_not, decide_true, decide_false, Int.reduceEq, Bool.not_true, Bool.not_false, not_true_eq_false, not_false_eq_true, cond_bool, cond_int, beq_self_eq_true, Int.reduceBEq, Bool.and_self, Bool.and_false, Bool.false_and, Bool.xor_false, Bool.xor_true, loadN_ldC, ldC_none, ldC_somes, stC_aggs, splice, storeN_stC, stC_int, stC_bool, stC_ptr, stC_nilp, stC_sl, stC_nils, getC_gcO, gcO_cells, W_draw_eq, ↓W_scope, ev_clear, evT, evF, evX, evM, ↓exitQ_normal, ↓exitQ_ret, ↓exitQ_exit, saA_self, saO_self, if_pos, if_neg, wrapI, get_concat, set_concat, Int.toNat_natCast, Int.toNat_zero, List.nil_append, Nat.mul_one, decide_eq_true, decide_eq_false, Int.reduceLE, Int.reduceLT, Int.reduceNeg, Bool.false_or, Bool.true_or, Bool.or_false, Bool.or_true, wrapU, Int.reduceAdd, Int.reduceSub, Int.reduceMul, hlit, evA, ha]
set_option maxHeartbeats 4000000 in
theorem clone_run {M : MM} {q : Nat} {cap : Option Nat} {xs : List Int} (hq : M[q]? = some (.cells 1 false (uC xs))) (hx : xs ≠ []) (hn : xs.length ≤ 65536) :
    c_slices_Clone_uint64 [.sl q 0 xs.length cap] M = some (.sl (M.length + 1) 0 xs.length none, M ++ [.cells 1 false [], .cells 1 false (uC xs)]) := by
  refine Fn_eq (Fn_of rfl ?_)
  have hlit : ∀ M : MM, amOp [] (.lit 0 1 [.int .u64 0] []) [] M = some (.sl M.length 0 0 (some 0), M ++ [.cells 1 false []]) := fun M => rfl
  have h0 : xs.length ≠ 0 := fun h => hx (List.length_eq_zero_iff.1 h)
  have hul : (uC xs).length = xs.length := by simp [uC]
  have hone : (uC xs).all AV.one = true := by simp [uC, AV.one]
  have hq' : (M ++ [Chunk.cells 1 false []])[q]? = some (.cells 1 false (uC xs)) := by rw [List.getElem?_append_left (List.getElem?_eq_some_iff.1 hq).1]; exact hq
  have ha : appendA 1 8 (.sl M.length 0 0 (some 0)) (.sl q 0 xs.length cap) (M ++ [Chunk.cells 1 false []]) = some (.sl (M.length + 1) 0 xs.length none, M ++ [.cells 1 false [], .cells 1 false (uC xs)]) := by
    have hrow : rowOf (M ++ [Chunk.cells 1 false []]) 1 (.sl q 0 xs.length cap) = some (uC xs) := by
      simp only [rowOf, getC, hq']
      rw [if_neg h0, if_pos (by omega), List.drop_zero, List.take_of_length_le (by omega)]
    simp only [appendA, lenA, hrow]
    rw [if_neg h0, if_neg (by omega)]
    simp only [rowOf, if_true, List.nil_append]
    rw [if_pos ⟨by omega, by omega, hone⟩]
    simp
  simp (disch := first | assumption | omega | (simp only [List.length_cons, List.length_nil, List.length_set, List.length_append] <;> omega) | (simp only [get_mid, get_mid0, List.cons_append, List.append_assoc, List.getElem?_cons_zero, List.getElem?_cons_succ])) only [slices_Clone_uint64, ek, ↓evW, ↓evQ, evB, evS, evL, List.map, AV.cells, List.all, AV.one, Bool.and_true, Bool.true_and, if_true, ↓thenQ_normal, ↓thenQ_exit, ↓thenQ_ret, ↓blockQ_normal, ↓blockQ_ret, ↓blockQ_exit, ↓CW_true, ↓CW_false, CW_true, CW_false, condT, condF, RQ_some, tupA_one, tupA_two, tupA_nil, Nat.reduceSub, Nat.reduceAdd, Nat.reduceMul, Nat.zero_add, Nat.add_zero, Nat.reduceLeDiff, Nat.reduceEqDiff, eqV, eqAll, fillA, and_self, and_true, true_and, Nat.le_refl, Bool.not_true, Bool.not_false, Bool.false_xor, Bool.true_xor, cond_true, cond_false, List.replicate, if_false, reduceIte, resAll, resA, ne_eq, decide_not, decide_true, decide_false, Int.reduceEq, Bool.not_true, Bool.not_false, not_true_eq_false, not_false_eq_true, cond_bool, cond_int, beq_self_eq_true, Int.reduceBEq, Bool.and_self, Bool.and_false, Bool.false_and, Bool.xor_false, Bool.xor_true, loadN_ldC, ldC_none, ldC_somes, stC_aggs, splice, storeN_stC, stC_int, stC_bool, stC_ptr, stC_nilp, stC_sl, stC_nils, getC_gcO, gcO_cells, W_draw_eq, ↓W_scope, ev_clear, evT, evF, evX, evM, ↓exitQ_normal, ↓exitQ_ret, ↓exitQ_exit, saA_self, saO_self, if_pos, if_neg, wrapI, get_concat, set_concat, Int.toNat_natCast, Int.toNat_zero, List.nil_append, Nat.mul_one, decide_eq_true, decide_eq_false, Int.reduceLE, Int.reduceLT, Int.reduceNeg, Bool.false_or, Bool.true_or, Bool.or_false, Bool.or_true, wrapU, Int.reduceAdd, Int.reduceSub, Int.reduceMul, hlit, evA, ha]
theorem rhoN_q {n q : Nat} (h : n ≤ q) : rhoN n q q = some n := by unfold rhoN; rw [if_neg (by omega), if_pos rfl]
def allS (s : MemSt) : List AV → Option ((Nat → AV) × MemSt × Nat × List AV)
  | [] => if s.cells.length ≤ 65536 then some (fun n => if s.cells = [] then .sl n 0 0 (some 0) else .sl n 0 s.cells.length none, s, 1, uC s.cells) else none
  | _ => none
set_option maxHeartbeats 4000000 in
theorem all_fold : Fold concM (unf 0 plM c_cell_Mem_All) (memNF allS) := memN_fold fun m i rest s s' mk sz L hi hst => by
  unfold allS at hst
  split at hst
  case h_2 => cases hst
  split at hst
  case isFalse => cases hst
  rename_i hn
  simp only [Option.some.injEq, Prod.mk.injEq] at hst
  obtain ⟨rfl, rfl, rfl, rfl⟩ := hst
  refine ⟨fun ρ => renL_map (f := AV.int .u64) (fun _ => rfl) _, ?_⟩
  have hr := ms_root hi (m := m)
  have hr7 : ∀ (s : MemSt) lv cv, (rootL s lv cv)[7]? = some cv := fun _ _ _ => rfl
  have h61 : assoc [(61, (c_slices_Clone_uint64 : AFun Ob))] 61 = some c_slices_Clone_uint64 := rfl
  have hpl1 : (plM (.mem s) i m.length).1 = .cells 8 false (rootL s (lvA (m.length + 1) s) (cvA i m.length s)) := rfl
  have hp := pl_len (m := m) (i := i) s
  by_cases h0 : s.cells = []
  · have hcv : cvA i m.length s = .sl i 0 0 (some 0) := if_pos h0
    have hrun : Fn [(61, c_slices_Clone_uint64)] cell_Mem_All [.ptr i 0] (m.set i (plM (.mem s) i m.length).1 ++ (plM (.mem s) i m.length).2) (fun v M => v = .sl (m.length + 2) 0 0 (some 0) ∧ M = m.set i (plM (.mem s) i m.length).1 ++ ((plM (.mem s) i m.length).2 ++ [.cells 1 false []])) := by
      refine Fn_of rfl ?_
      simp (disch := first | assumption | omega | (simp only [List.length_cons, List.length_nil, List.length_set, List.length_append] <;> omega) | (simp only [get_mid, get_mid0, List.cons_append, List.append_assoc, List.getElem?_cons_zero, List.getElem?_cons_succ])) only [cell_Mem_All, ek, ↓evW, ↓evQ, evB, evS, evL, List.map, AV.cells, List.all, AV.one, Bool.and_true, Bool.true_and, if_true, ↓thenQ_normal, ↓thenQ_exit, ↓thenQ_ret, ↓blockQ_normal, ↓blockQ_ret, ↓blockQ_exit, ↓CW_true, ↓CW_false, CW_true, CW_false, condT, condF, RQ_some, tupA_one, tupA_two, tupA_nil, Nat.reduceSub, Nat.reduceAdd, Nat.reduceMul, Nat.zero_add, Nat.add_zero, Nat.reduceLeDiff, Nat.reduceEqDiff, eqV, eqAll, fillA, and_self, and_true, true_and, Nat.le_refl, Bool.not_true, Bool.not_false, Bool.false_xor, Bool.true_xor, cond_true, cond_false, List.replicate, if_false, reduceIte, resAll, resA, ne_eq, decide_not, decide_true, decide_false, Int.reduceEq, Bool.not_true, Bool.not_false, not_true_eq_false, not_false_eq_true, cond_bool, cond_int, beq_self_eq_true, Int.reduceBEq, Bool.and_self, Bool.and_false, Bool.false_and, Bool.xor_false, Bool.xor_true, loadN_ldC, ldC_none, ldC_somes, stC_aggs, splice, storeN_stC, stC_int, stC_bool, stC_ptr, stC_nilp, stC_sl, stC_nils, getC_gcO, gcO_cells, W_draw_eq, ↓W_scope, ev_clear, evT, evF, evX, evM, ↓exitQ_normal, ↓exitQ_ret, ↓exitQ_exit, saA_self, saO_self, if_pos, if_neg, wrapI, get_concat, set_concat, Int.toNat_natCast, Int.toNat_zero, List.nil_append, Nat.mul_one, decide_eq_true, decide_eq_false, Int.reduceLE, Int.reduceLT, Int.reduceNeg, Bool.false_or, Bool.true_or, Bool.or_false, Bool.or_true, wrapU, Int.reduceAdd, Int.reduceSub, Int.reduceMul, hpl1, hr, hr7, hcv, h61, clone_nil]
      simp [hp]
    obtain ⟨_, _, h1, rfl, rfl⟩ := hrun
    refine ⟨_, _, m.length, m.length + 1, m.length + 2, h1, by simp [AV.ren, rhoN_q, h0], by omega, by omega, by omega, by rw [ms_mid, h0]; rfl, by simp, fun j hj hji => ms_other hj hji _ _, by omega, by omega, by omega, ⟨⟨_, ms_root hi _ _, .inl rfl⟩, fun _ => by rw [ms_mid0]; rfl, fun _ => by rw [ms_mid]; rfl⟩⟩
  · have hcv : cvA i m.length s = .sl m.length 0 s.cells.length (if s.ck then some s.cells.length else none) := if_neg h0
    have hcl := clone_run (M := m.set i (plM (.mem s) i m.length).1 ++ (plM (.mem s) i m.length).2) (q := m.length) (cap := if s.ck then some s.cells.length else none) (xs := s.cells) (by rw [ms_mid0]; rfl) h0 hn
    have hrun : Fn [(61, c_slices_Clone_uint64)] cell_Mem_All [.ptr i 0] (m.set i (plM (.mem s) i m.length).1 ++ (plM (.mem s) i m.length).2) (fun v M => v = .sl (m.length + 3) 0 s.cells.length none ∧ M = m.set i (plM (.mem s) i m.length).1 ++ ((plM (.mem s) i m.length).2 ++ [.cells 1 false [], .cells 1 false (uC s.cells)])) := by
      refine Fn_of rfl ?_
      rw [hpl1, hcv] at hcl
      simp (disch := first | assumption | omega | (simp only [List.length_cons, List.length_nil, List.length_set, List.length_append] <;> omega) | (simp only [get_mid, get_mid0, List.cons_append, List.append_assoc, List.getElem?_cons_zero, List.getElem?_cons_succ])) only [cell_Mem_All, ek, ↓evW, ↓evQ, evB, evS, evL, List.map, AV.cells, List.all, AV.one, Bool.and_true, Bool.true_and, if_true, ↓thenQ_normal, ↓thenQ_exit, ↓thenQ_ret, ↓blockQ_normal, ↓blockQ_ret, ↓blockQ_exit, ↓CW_true, ↓CW_false, CW_true, CW_false, condT, condF, RQ_some, tupA_one, tupA_two, tupA_nil, Nat.reduceSub, Nat.reduceAdd, Nat.reduceMul, Nat.zero_add, Nat.add_zero, Nat.reduceLeDiff, Nat.reduceEqDiff, eqV, eqAll, fillA, and_self, and_true, true_and, Nat.le_refl, Bool.not_true, Bool.not_false, Bool.false_xor, Bool.true_xor, cond_true, cond_false, List.replicate, if_false, reduceIte, resAll, resA, ne_eq, decide_not, decide_true, decide_false, Int.reduceEq, Bool.not_true, Bool.not_false, not_true_eq_false, not_false_eq_true, cond_bool, cond_int, beq_self_eq_true, Int.reduceBEq, Bool.and_self, Bool.and_false, Bool.false_and, Bool.xor_false, Bool.xor_true, loadN_ldC, ldC_none, ldC_somes, stC_aggs, splice, storeN_stC, stC_int, stC_bool, stC_ptr, stC_nilp, stC_sl, stC_nils, getC_gcO, gcO_cells, W_draw_eq, ↓W_scope, ev_clear, evT, evF, evX, evM, ↓exitQ_normal, ↓exitQ_ret, ↓exitQ_exit, saA_self, saO_self, if_pos, if_neg, wrapI, get_concat, set_concat, Int.toNat_natCast, Int.toNat_zero, List.nil_append, Nat.mul_one, decide_eq_true, decide_eq_false, Int.reduceLE, Int.reduceLT, Int.reduceNeg, Bool.false_or, Bool.true_or, Bool.or_false, Bool.or_true, wrapU, Int.reduceAdd, Int.reduceSub, Int.reduceMul, hpl1, hr, hr7, hcv, h61, hcl]
      simp [hp]
    obtain ⟨_, _, h1, rfl, rfl⟩ := hrun
    refine ⟨_, _, m.length, m.length + 1, m.length + 3, h1, by simp [AV.ren, rhoN_q, h0], by omega, by omega, by omega, by rw [ms_mid]; rfl, by simp, fun j hj hji => ms_other hj hji _ _, by omega, by omega, by omega, ⟨⟨_, ms_root hi _ _, .inl rfl⟩, fun _ => by rw [ms_mid0]; rfl, fun _ => by rw [ms_mid]; rfl⟩⟩
end Go.Am.F06
