/- A copy of a memory. -/
import Derived.Test.YtldpldoehjpnaaaXO06
set_option linter.unusedSimpArgs false
set_option linter.unusedVariables false
namespace Go.Am.F06

set_option maxHeartbeats 4000000 in
theorem copy_run11 {m : MM} {i : Nat} (hi : i < m.length) {s : MemSt} (hn : s.cells.length ≤ 65536) (hnl : s.log.length ≤ 65536) (h0 : s.cells ≠ []) (h1 : s.log ≠ []) :
    Fn [(61, c_slices_Clone_uint64), (62, c_slices_Clone_cell_Access)] cell_Mem_Copy [.ptr i 0] (m.set i (plM (.mem s) i m.length).1 ++ (plM (.mem s) i m.length).2) (fun v M => v = .ptr (m.length + 4) 0 ∧
      M = m.set i (plM (.mem s) i m.length).1 ++ ((plM (.mem s) i m.length).2 ++ [.cells 1 false [], .cells 1 false (uC s.cells), .cells 8 false (rootL s (.sl (m.length + 6) 0 s.log.length none) (.sl (m.length + 3) 0 s.cells.length none)), .cells 4 false [], .cells 4 false (s.log.flatMap accC)])) := by
  refine Fn_of rfl ?_
  have hr := ms_root hi (m := m)
  have h61 : assoc [(61, (c_slices_Clone_uint64 : AFun Ob)), (62, c_slices_Clone_cell_Access)] 61 = some c_slices_Clone_uint64 := rfl
  have h62 : assoc [(61, (c_slices_Clone_uint64 : AFun Ob)), (62, c_slices_Clone_cell_Access)] 62 = some c_slices_Clone_cell_Access := rfl
  have hpl1 : (plM (.mem s) i m.length).1 = .cells 8 false (rootL s (lvA (m.length + 1) s) (cvA i m.length s)) := rfl
  have hp := pl_len (m := m) (i := i) s
  have hcv : cvA i m.length s = .sl m.length 0 s.cells.length (if s.ck then some s.cells.length else none) := if_neg h0
  have hlv : lvA (m.length + 1) s = .sl (m.length + 1) (s.pre.length * 4) s.log.length none := if_neg h1
  have hcl := clone_run (M := m.set i (plM (.mem s) i m.length).1 ++ (plM (.mem s) i m.length).2) (q := m.length) (cap := if s.ck then some s.cells.length else none) (xs := s.cells) (by rw [ms_mid0]; rfl) h0 hn
  rw [hpl1, hcv, hlv] at hcl
  simp only [List.length_append, List.length_set, hp, rootL, List.append_assoc] at hcl
  have hcl2 : ∀ R (x y z : Chunk Ob), c_slices_Clone_cell_Access [.sl (m.length + 1) (s.pre.length * 4) s.log.length none] (m.set i R ++ ((plM (.mem s) i m.length).2 ++ [x, y, z])) = some (.sl (m.length + 6) 0 s.log.length none, m.set i R ++ ((plM (.mem s) i m.length).2 ++ [x, y, z, .cells 4 false [], .cells 4 false (s.log.flatMap accC)])) := fun R x y z => by
    rw [clonea_run (pre := s.pre) (xs := s.log) (by rw [ms_mid]; rfl) h1 hnl]
    simp [hp]
  have hg4 : ∀ R (x y z u w : Chunk Ob), (m.set i R ++ ((plM (.mem s) i m.length).2 ++ [x, y, z, u, w]))[m.length + 4]? = some z := fun R x y z u w => by rw [ms_mid]; rfl
  have hs4 : ∀ R (x y z u w z' : Chunk Ob), (m.set i R ++ ((plM (.mem s) i m.length).2 ++ [x, y, z, u, w])).set (m.length + 4) z' = m.set i R ++ ((plM (.mem s) i m.length).2 ++ [x, y, z', u, w]) := fun R x y z u w z' => by rw [ms_setk]; rfl
  simp (disch := first | assumption | omega | (simp only [List.length_cons, List.length_nil, List.length_set, List.length_append] <;> omega) | (simp only [get_mid, get_mid0, List.cons_append, List.append_assoc, List.getElem?_cons_zero, List.getElem?_cons_succ])) only [cell_Mem_Copy, ek, ↓evW, ↓evQ, evB, evS, evL, List.map, AV.cells, List.all, AV.one, Bool.and_true, Bool.true_and, if_true, ↓thenQ_normal, ↓thenQ_exit, ↓thenQ_ret, ↓blockQ_normal, ↓blockQ_ret, ↓blockQ_exit, ↓CW_true, ↓CW_false, CW_true, CW_false, condT, condF, RQ_some, tupA_one, tupA_two, tupA_nil, Nat.reduceSub, Nat.reduceAdd, Nat.reduceMul, Nat.zero_add, Nat.add_zero, Nat.reduceLeDiff, Nat.reduceEqDiff, eqV, eqAll, fillA, and_self, and_true, true_and, Nat.le_refl, Bool.not_true, Bool.not_false, Bool.false_xor, Bool.true_xor, cond_true, cond_false, List.replicate, if_false, reduceIte, resAll, resA, ne_eq, decide_not, decide_true, decide_false, Int.reduceEq, Bool.not_true, Bool.not_false, not_true_eq_false, not_false_eq_true, cond_bool, cond_int, beq_self_eq_true, Int.reduceBEq, Bool.and_self, Bool.and_false, Bool.false_and, Bool.xor_false, Bool.xor_true, loadN_ldC, ldC_none, ldC_somes, stC_aggs, splice, storeN_stC, stC_int, stC_bool, stC_ptr, stC_nilp, stC_sl, stC_nils, getC_gcO, gcO_cells, W_draw_eq, ↓W_scope, ev_clear, evT, evF, evX, evM, ↓exitQ_normal, ↓exitQ_ret, ↓exitQ_exit, saA_self, saO_self, if_pos, if_neg, wrapI, get_concat, set_concat, Int.toNat_natCast, Int.toNat_zero, List.nil_append, Nat.mul_one, decide_eq_true, decide_eq_false, Int.reduceLE, Int.reduceLT, Int.reduceNeg, Bool.false_or, Bool.true_or, Bool.or_false, Bool.or_true, wrapU, Int.reduceAdd, Int.reduceSub, Int.reduceMul, List.length_append, List.length_set, hp, hcl2, hg4, hs4, hpl1, hr, rootL, hcv, hlv, h61, h62, hcl, evA, List.take_succ_cons, List.take_zero, List.length_cons, List.length_nil, List.drop_succ_cons, List.drop_zero, List.cons_append, List.append_nil, List.append_assoc]

set_option maxHeartbeats 4000000 in
theorem copy_run10 {m : MM} {i : Nat} (hi : i < m.length) {s : MemSt} (hn : s.cells.length ≤ 65536) (hnl : s.log.length ≤ 65536) (h0 : s.cells ≠ []) (h1 : s.log = []) :
    Fn [(61, c_slices_Clone_uint64), (62, c_slices_Clone_cell_Access)] cell_Mem_Copy [.ptr i 0] (m.set i (plM (.mem s) i m.length).1 ++ (plM (.mem s) i m.length).2) (fun v M => v = .ptr (m.length + 4) 0 ∧
      M = m.set i (plM (.mem s) i m.length).1 ++ ((plM (.mem s) i m.length).2 ++ [.cells 1 false [], .cells 1 false (uC s.cells), .cells 8 false (rootL s (.nils) (.sl (m.length + 3) 0 s.cells.length none))])) := by
  refine Fn_of rfl ?_
  have hr := ms_root hi (m := m)
  have h61 : assoc [(61, (c_slices_Clone_uint64 : AFun Ob)), (62, c_slices_Clone_cell_Access)] 61 = some c_slices_Clone_uint64 := rfl
  have h62 : assoc [(61, (c_slices_Clone_uint64 : AFun Ob)), (62, c_slices_Clone_cell_Access)] 62 = some c_slices_Clone_cell_Access := rfl
  have hpl1 : (plM (.mem s) i m.length).1 = .cells 8 false (rootL s (lvA (m.length + 1) s) (cvA i m.length s)) := rfl
  have hp := pl_len (m := m) (i := i) s
  have hcv : cvA i m.length s = .sl m.length 0 s.cells.length (if s.ck then some s.cells.length else none) := if_neg h0
  have hlv : lvA (m.length + 1) s = .nils := if_pos h1
  have hcl := clone_run (M := m.set i (plM (.mem s) i m.length).1 ++ (plM (.mem s) i m.length).2) (q := m.length) (cap := if s.ck then some s.cells.length else none) (xs := s.cells) (by rw [ms_mid0]; rfl) h0 hn
  rw [hpl1, hcv, hlv] at hcl
  simp only [List.length_append, List.length_set, hp, rootL, List.append_assoc] at hcl
  have hcl2 : ∀ R (x y z : Chunk Ob), c_slices_Clone_cell_Access [.nils] (m.set i R ++ ((plM (.mem s) i m.length).2 ++ [x, y, z])) = some (.nils, m.set i R ++ ((plM (.mem s) i m.length).2 ++ [x, y, z])) := fun R x y z => by
    rw [clonea_nils]
  have hg4 : ∀ R (x y z : Chunk Ob), (m.set i R ++ ((plM (.mem s) i m.length).2 ++ [x, y, z]))[m.length + 4]? = some z := fun R x y z => by rw [ms_mid]; rfl
  have hs4 : ∀ R (x y z z' : Chunk Ob), (m.set i R ++ ((plM (.mem s) i m.length).2 ++ [x, y, z])).set (m.length + 4) z' = m.set i R ++ ((plM (.mem s) i m.length).2 ++ [x, y, z']) := fun R x y z z' => by rw [ms_setk]; rfl
  simp (disch := first | assumption | omega | (simp only [List.length_cons, List.length_nil, List.length_set, List.length_append] <;> omega) | (simp only [get_mid, get_mid0, List.cons_append, List.append_assoc, List.getElem?_cons_zero, List.getElem?_cons_succ])) only [cell_Mem_Copy, ek, ↓evW, ↓evQ, evB, evS, evL, List.map, AV.cells, List.all, AV.one, Bool.and_true, Bool.true_and, if_true, ↓thenQ_normal, ↓thenQ_exit, ↓thenQ_ret, ↓blockQ_normal, ↓blockQ_ret, ↓blockQ_exit, ↓CW_true, ↓CW_false, CW_true, CW_false, condT, condF, RQ_some, tupA_one, tupA_two, tupA_nil, Nat.reduceSub, Nat.reduceAdd, Nat.reduceMul, Nat.zero_add, Nat.add_zero, Nat.reduceLeDiff, Nat.reduceEqDiff, eqV, eqAll, fillA, and_self, and_true, true_and, Nat.le_refl, Bool.not_true, Bool.not_false, Bool.false_xor, Bool.true_xor, cond_true, cond_false, List.replicate, if_false, reduceIte, resAll, resA, ne_eq, decide_not, decide_true, decide_false, Int.reduceEq, Bool.not_true, Bool.not_false, not_true_eq_false, not_false_eq_true, cond_bool, cond_int, beq_self_eq_true, Int.reduceBEq, Bool.and_self, Bool.and_false, Bool.false_and, Bool.xor_false, Bool.xor_true, loadN_ldC, ldC_none, ldC_somes, stC_aggs, splice, storeN_stC, stC_int, stC_bool, stC_ptr, stC_nilp, stC_sl, stC_nils, getC_gcO, gcO_cells, W_draw_eq, ↓W_scope, ev_clear, evT, evF, evX, evM, ↓exitQ_normal, ↓exitQ_ret, ↓exitQ_exit, saA_self, saO_self, if_pos, if_neg, wrapI, get_concat, set_concat, Int.toNat_natCast, Int.toNat_zero, List.nil_append, Nat.mul_one, decide_eq_true, decide_eq_false, Int.reduceLE, Int.reduceLT, Int.reduceNeg, Bool.false_or, Bool.true_or, Bool.or_false, Bool.or_true, wrapU, Int.reduceAdd, Int.reduceSub, Int.reduceMul, List.length_append, List.length_set, hp, hcl2, hg4, hs4, hpl1, hr, rootL, hcv, hlv, h61, h62, hcl, evA, List.take_succ_cons, List.take_zero, List.length_cons, List.length_nil, List.drop_succ_cons, List.drop_zero, List.cons_append, List.append_nil, List.append_assoc]

set_option maxHeartbeats 4000000 in
theorem copy_run01 {m : MM} {i : Nat} (hi : i < m.length) {s : MemSt} (hn : s.cells.length ≤ 65536) (hnl : s.log.length ≤ 65536) (h0 : s.cells = []) (h1 : s.log ≠ []) :
    Fn [(61, c_slices_Clone_uint64), (62, c_slices_Clone_cell_Access)] cell_Mem_Copy [.ptr i 0] (m.set i (plM (.mem s) i m.length).1 ++ (plM (.mem s) i m.length).2) (fun v M => v = .ptr (m.length + 3) 0 ∧
      M = m.set i (plM (.mem s) i m.length).1 ++ ((plM (.mem s) i m.length).2 ++ [.cells 1 false [], .cells 8 false (rootL s (.sl (m.length + 5) 0 s.log.length none) (.sl (m.length + 2) 0 0 (some 0))), .cells 4 false [], .cells 4 false (s.log.flatMap accC)])) := by
  refine Fn_of rfl ?_
  have hr := ms_root hi (m := m)
  have h61 : assoc [(61, (c_slices_Clone_uint64 : AFun Ob)), (62, c_slices_Clone_cell_Access)] 61 = some c_slices_Clone_uint64 := rfl
  have h62 : assoc [(61, (c_slices_Clone_uint64 : AFun Ob)), (62, c_slices_Clone_cell_Access)] 62 = some c_slices_Clone_cell_Access := rfl
  have hpl1 : (plM (.mem s) i m.length).1 = .cells 8 false (rootL s (lvA (m.length + 1) s) (cvA i m.length s)) := rfl
  have hp := pl_len (m := m) (i := i) s
  have hcv : cvA i m.length s = .sl i 0 0 (some 0) := if_pos h0
  have hlv : lvA (m.length + 1) s = .sl (m.length + 1) (s.pre.length * 4) s.log.length none := if_neg h1
  have hcl := clone_nil (M := m.set i (plM (.mem s) i m.length).1 ++ (plM (.mem s) i m.length).2) (q := i) (o := 0) (cap := some 0)
  rw [hpl1, hcv, hlv] at hcl
  simp only [List.length_append, List.length_set, hp, rootL, List.append_assoc] at hcl
  have hcl2 : ∀ R (x y : Chunk Ob), c_slices_Clone_cell_Access [.sl (m.length + 1) (s.pre.length * 4) s.log.length none] (m.set i R ++ ((plM (.mem s) i m.length).2 ++ [x, y])) = some (.sl (m.length + 5) 0 s.log.length none, m.set i R ++ ((plM (.mem s) i m.length).2 ++ [x, y, .cells 4 false [], .cells 4 false (s.log.flatMap accC)])) := fun R x y => by
    rw [clonea_run (pre := s.pre) (xs := s.log) (by rw [ms_mid]; rfl) h1 hnl]
    simp [hp]
  have hg4 : ∀ R (x y u w : Chunk Ob), (m.set i R ++ ((plM (.mem s) i m.length).2 ++ [x, y, u, w]))[m.length + 3]? = some y := fun R x y u w => by rw [ms_mid]; rfl
  have hs4 : ∀ R (x y u w z' : Chunk Ob), (m.set i R ++ ((plM (.mem s) i m.length).2 ++ [x, y, u, w])).set (m.length + 3) z' = m.set i R ++ ((plM (.mem s) i m.length).2 ++ [x, z', u, w]) := fun R x y u w z' => by rw [ms_setk]; rfl
  simp (disch := first | assumption | omega | (simp only [List.length_cons, List.length_nil, List.length_set, List.length_append] <;> omega) | (simp only [get_mid, get_mid0, List.cons_append, List.append_assoc, List.getElem?_cons_zero, List.getElem?_cons_succ])) only [cell_Mem_Copy, ek, ↓evW, ↓evQ, evB, evS, evL, List.map, AV.cells, List.all, AV.one, Bool.and_true, Bool.true_and, if_true, ↓thenQ_normal, ↓thenQ_exit, ↓thenQ_ret, ↓blockQ_normal, ↓blockQ_ret, ↓blockQ_exit, ↓CW_true, ↓CW_false, CW_true, CW_false, condT, condF, RQ_some, tupA_one, tupA_two, tupA_nil, Nat.reduceSub, Nat.reduceAdd, Nat.reduceMul, Nat.zero_add, Nat.add_zero, Nat.reduceLeDiff, Nat.reduceEqDiff, eqV, eqAll, fillA, and_self, and_true, true_and, Nat.le_refl, Bool.not_true, Bool.not_false, Bool.false_xor, Bool.true_xor, cond_true, cond_false, List.replicate, if_false, reduceIte, resAll, resA, ne_eq, decide_not, decide_true, decide_false, Int.reduceEq, Bool.not_true, Bool.not_false, not_true_eq_false, not_false_eq_true, cond_bool, cond_int, beq_self_eq_true, Int.reduceBEq, Bool.and_self, Bool.and_false, Bool.false_and, Bool.xor_false, Bool.xor_true, loadN_ldC, ldC_none, ldC_somes, stC_aggs, splice, storeN_stC, stC_int, stC_bool, stC_ptr, stC_nilp, stC_sl, stC_nils, getC_gcO, gcO_cells, W_draw_eq, ↓W_scope, ev_clear, evT, evF, evX, evM, ↓exitQ_normal, ↓exitQ_ret, ↓exitQ_exit, saA_self, saO_self, if_pos, if_neg, wrapI, get_concat, set_concat, Int.toNat_natCast, Int.toNat_zero, List.nil_append, Nat.mul_one, decide_eq_true, decide_eq_false, Int.reduceLE, Int.reduceLT, Int.reduceNeg, Bool.false_or, Bool.true_or, Bool.or_false, Bool.or_true, wrapU, Int.reduceAdd, Int.reduceSub, Int.reduceMul, List.length_append, List.length_set, hp, hcl2, hg4, hs4, hpl1, hr, rootL, hcv, hlv, h61, h62, hcl, evA, List.take_succ_cons, List.take_zero, List.length_cons, List.length_nil, List.drop_succ_cons, List.drop_zero, List.cons_append, List.append_nil, List.append_assoc]

set_option maxHeartbeats 4000000 in
theorem copy_run00 {m : MM} {i : Nat} (hi : i < m.length) {s : MemSt} (hn : s.cells.length ≤ 65536) (hnl : s.log.length ≤ 65536) (h0 : s.cells = []) (h1 : s.log = []) :
    Fn [(61, c_slices_Clone_uint64), (62, c_slices_Clone_cell_Access)] cell_Mem_Copy [.ptr i 0] (m.set i (plM (.mem s) i m.length).1 ++ (plM (.mem s) i m.length).2) (fun v M => v = .ptr (m.length + 3) 0 ∧
      M = m.set i (plM (.mem s) i m.length).1 ++ ((plM (.mem s) i m.length).2 ++ [.cells 1 false [], .cells 8 false (rootL s (.nils) (.sl (m.length + 2) 0 0 (some 0)))])) := by
  refine Fn_of rfl ?_
  have hr := ms_root hi (m := m)
  have h61 : assoc [(61, (c_slices_Clone_uint64 : AFun Ob)), (62, c_slices_Clone_cell_Access)] 61 = some c_slices_Clone_uint64 := rfl
  have h62 : assoc [(61, (c_slices_Clone_uint64 : AFun Ob)), (62, c_slices_Clone_cell_Access)] 62 = some c_slices_Clone_cell_Access := rfl
  have hpl1 : (plM (.mem s) i m.length).1 = .cells 8 false (rootL s (lvA (m.length + 1) s) (cvA i m.length s)) := rfl
  have hp := pl_len (m := m) (i := i) s
  have hcv : cvA i m.length s = .sl i 0 0 (some 0) := if_pos h0
  have hlv : lvA (m.length + 1) s = .nils := if_pos h1
  have hcl := clone_nil (M := m.set i (plM (.mem s) i m.length).1 ++ (plM (.mem s) i m.length).2) (q := i) (o := 0) (cap := some 0)
  rw [hpl1, hcv, hlv] at hcl
  simp only [List.length_append, List.length_set, hp, rootL, List.append_assoc] at hcl
  have hcl2 : ∀ R (x y : Chunk Ob), c_slices_Clone_cell_Access [.nils] (m.set i R ++ ((plM (.mem s) i m.length).2 ++ [x, y])) = some (.nils, m.set i R ++ ((plM (.mem s) i m.length).2 ++ [x, y])) := fun R x y => by
    rw [clonea_nils]
  have hg4 : ∀ R (x y : Chunk Ob), (m.set i R ++ ((plM (.mem s) i m.length).2 ++ [x, y]))[m.length + 3]? = some y := fun R x y => by rw [ms_mid]; rfl
  have hs4 : ∀ R (x y z' : Chunk Ob), (m.set i R ++ ((plM (.mem s) i m.length).2 ++ [x, y])).set (m.length + 3) z' = m.set i R ++ ((plM (.mem s) i m.length).2 ++ [x, z']) := fun R x y z' => by rw [ms_setk]; rfl
  simp (disch := first | assumption | omega | (simp only [List.length_cons, List.length_nil, List.length_set, List.length_append] <;> omega) | (simp only [get_mid, get_mid0, List.cons_append, List.append_assoc, List.getElem?_cons_zero, List.getElem?_cons_succ])) only [cell_Mem_Copy, ek, ↓evW, ↓evQ, evB, evS, evL, List.map, AV.cells, List.all, AV.one, Bool.and_true, Bool.true_and, if_true, ↓thenQ_normal, ↓thenQ_exit, ↓thenQ_ret, ↓blockQ_normal, ↓blockQ_ret, ↓blockQ_exit, ↓CW_true, ↓CW_false, CW_true, CW_false, condT, condF, RQ_some, tupA_one, tupA_two, tupA_nil, Nat.reduceSub, Nat.reduceAdd, Nat.reduceMul, Nat.zero_add, Nat.add_zero, Nat.reduceLeDiff, Nat.reduceEqDiff, eqV, eqAll, fillA, and_self, and_true, true_and, Nat.le_refl, Bool.not_true, Bool.not_false, Bool.false_xor, Bool.true_xor, cond_true, cond_false, List.replicate, if_false, reduceIte, resAll, resA, ne_eq, decide_not, decide_true, decide_false, Int.reduceEq, Bool.not_true, Bool.not_false, not_true_eq_false, not_false_eq_true, cond_bool, cond_int, beq_self_eq_true, Int.reduceBEq, Bool.and_self, Bool.and_false, Bool.false_and, Bool.xor_false, Bool.xor_true, loadN_ldC, ldC_none, ldC_somes, stC_aggs, splice, storeN_stC, stC_int, stC_bool, stC_ptr, stC_nilp, stC_sl, stC_nils, getC_gcO, gcO_cells, W_draw_eq, ↓W_scope, ev_clear, evT, evF, evX, evM, ↓exitQ_normal, ↓exitQ_ret, ↓exitQ_exit, saA_self, saO_self, if_pos, if_neg, wrapI, get_concat, set_concat, Int.toNat_natCast, Int.toNat_zero, List.nil_append, Nat.mul_one, decide_eq_true, decide_eq_false, Int.reduceLE, Int.reduceLT, Int.reduceNeg, Bool.false_or, Bool.true_or, Bool.or_false, Bool.or_true, wrapU, Int.reduceAdd, Int.reduceSub, Int.reduceMul, List.length_append, List.length_set, hp, hcl2, hg4, hs4, hpl1, hr, rootL, hcv, hlv, h61, h62, hcl, evA, List.take_succ_cons, List.take_zero, List.length_cons, List.length_nil, List.drop_succ_cons, List.drop_zero, List.cons_append, List.append_nil, List.append_assoc]

end Go.Am.F06
