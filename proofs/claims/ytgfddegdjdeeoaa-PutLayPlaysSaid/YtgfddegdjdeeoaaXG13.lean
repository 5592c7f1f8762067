import Derived.Test.YtgfddegdjdeeoaaXG12
set_option linter.unusedSimpArgs false
set_option linter.unusedVariables false
section
namespace Go.Am.F10
variable {X : Type}
theorem get_at {α : Type} {l k : List α} {n i : Nat} (h : l.length = n) : (l ++ k)[n + i]? = k[i]? := by rw [← h]; exact get_mid
theorem get_at0 {α : Type} {l k : List α} {n : Nat} (h : l.length = n) : (l ++ k)[n]? = k[0]? := by rw [← h]; exact get_mid0
theorem set_at {α : Type} {l k : List α} {n i : Nat} {y : α} (h : l.length = n) : (l ++ k).set (n + i) y = l ++ k.set i y := by rw [← h]; exact set_mid
theorem set_at0 {α : Type} {l k : List α} {n : Nat} {y : α} (h : l.length = n) : (l ++ k).set n y = l ++ k.set 0 y := by rw [← h]; exact set_mid0
structure Cf where
  n : Int
  q : Int
  g : Int
  m : Int
  t : Int
  s : Int
def cfC (c : Cf) : List AV := [.int .i64 c.n, .int .i64 c.q, .int .i64 c.g, .int .i64 c.m, .int .i64 c.t, .int .i64 c.s]
def landI (a b : Int) : Int := IntKind.i64.wrap ((BitVec.ofInt 64 a &&& BitVec.ofInt 64 b).toNat : Int)
theorem evAnd (a b : Int) : binI .and .i64 a b = some (.int .i64 (landI a b)) := rfl
def roomP (q : Int) : Prop := q = 2 ∨ q = 4 ∨ q = 8 ∨ q = 16 ∨ q = 32 ∨ q = 64
def rightP (c : Cf) : Prop := (1 ≤ c.n ∧ c.n ≤ 8) ∧ roomP c.q ∧ (1 ≤ c.g ∧ c.g ≤ 256) ∧ (c.n + 1 ≤ c.m ∧ c.m ≤ 16) ∧ (2 ≤ c.t ∧ c.t ≤ 200) ∧ (0 ≤ c.s ∧ c.s ≤ 1000)
instance (q : Int) : Decidable (roomP q) := by unfold roomP; infer_instance
instance (c : Cf) : Decidable (rightP c) := by unfold rightP; infer_instance
theorem land_room {q : Int} (h1 : 2 ≤ q) (h2 : q ≤ 64) : landI q (q - 1) = 0 ↔ roomP q := by
  have key : ∀ k : Fin 65, 2 ≤ k.val → (landI (k.val : Int) ((k.val : Int) - 1) = 0 ↔ roomP (k.val : Int)) := by decide +kernel
  have := key ⟨q.toNat, by omega⟩ (by show 2 ≤ q.toNat; omega)
  simp only at this
  rwa [show ((q.toNat : Nat) : Int) = q by omega] at this
def inB (a lo hi : Int) : Bool := decide (lo ≤ a) && decide (a ≤ hi)
theorem inB_iff {a lo hi : Int} : inB a lo hi = true ↔ lo ≤ a ∧ a ≤ hi := by simp [inB]
theorem within_run {G : List (Nat × AFun X)} {m : Mem X} (a lo hi : Int) : Fn G conf_within [.int .i64 a, .int .i64 lo, .int .i64 hi] m (fun r m' => r = .bool (inB a lo hi) ∧ m' = m) := by
  refine Fn_of rfl ?_
  unfold inB
  simp (disch := first | assumption | omega | (simp only [List.length_cons, List.length_nil, List.length_set, List.length_append] <;> omega) | (simp only [get_mid, get_mid0, List.cons_append, List.append_assoc, List.getElem?_cons_zero, List.getElem?_cons_succ])) only [conf_within, ek, ↓evW, ↓evQ, evB, evS, evL, List.map, AV.cells, List.all, AV.one, Bool.and_true, Bool.true_and, if_true, ↓thenQ_normal, ↓thenQ_exit, ↓thenQ_ret, ↓blockQ_normal, ↓blockQ_ret, ↓blockQ_exit, ↓CW_true, ↓CW_false, CW_true, CW_false, condT, condF, RQ_some, tupA_one, tupA_two, tupA_nil, Nat.reduceSub, Nat.reduceAdd, Nat.reduceMul, Nat.zero_add, Nat.add_zero, Nat.reduceLeDiff, Nat.reduceEqDiff, eqV, eqAll, fillA, and_self, and_true, true_and, Nat.le_refl, Bool.not_true, Bool.not_false, Bool.false_xor, Bool.true_xor, cond_true, cond_false, List.replicate, if_false, reduceIte, resAll, resA, ne_eq, decide_not, decide_true, decide_false, Int.reduceEq, Bool.not_true, Bool.not_false, not_true_eq_false, not_false_eq_true, cond_bool, cond_int, beq_self_eq_true, Int.reduceBEq, Bool.and_self, Bool.and_false, Bool.false_and, Bool.xor_false, Bool.xor_true, loadN_ldC, ldC_none, ldC_somes, stC_aggs, splice, storeN_stC, stC_int, stC_bool, stC_ptr, stC_nilp, stC_sl, stC_nils, getC_gcO, gcO_cells, W_draw_eq, ↓W_scope, ev_clear, evT, evF, evX, evM, ↓exitQ_normal, ↓exitQ_ret, ↓exitQ_exit, saA_self, saO_self, if_pos, if_neg, wrapI, get_concat, set_concat, Int.toNat_natCast, Int.toNat_zero, List.nil_append, Nat.mul_one, decide_eq_true, decide_eq_false, Int.reduceLE, Int.reduceLT, Int.reduceNeg, Bool.false_or, Bool.true_or, Bool.or_false, Bool.or_true, wrapU, Int.reduceAdd, Int.reduceSub, Int.reduceMul]
  repeat' ((first | refine GK_of (fun h => ?_) (fun h => ?_) | refine CW_of (fun h => ?_) (fun h => ?_) | refine GKT_of (fun h => ?_) (fun h => ?_)) <;> (try simp only [Bool.not_eq_true', Bool.not_eq_false', decide_eq_true_eq, decide_eq_false_iff_not, Bool.and_eq_true, Bool.or_eq_true, Bool.and_eq_false_iff, Bool.or_eq_false_iff, Decidable.not_not] at h) <;> (try simp (disch := first | assumption | omega | (simp only [List.length_cons, List.length_nil, List.length_set, List.length_append] <;> omega) | (simp only [get_mid, get_mid0, List.cons_append, List.append_assoc, List.getElem?_cons_zero, List.getElem?_cons_succ])) only [ek, ↓evW, ↓evQ, evB, evS, evL, List.map, AV.cells, List.all, AV.one, Bool.and_true, Bool.true_and, if_true, ↓thenQ_normal, ↓thenQ_exit, ↓thenQ_ret, ↓blockQ_normal, ↓blockQ_ret, ↓blockQ_exit, ↓CW_true, ↓CW_false, CW_true, CW_false, condT, condF, RQ_some, tupA_one, tupA_two, tupA_nil, Nat.reduceSub, Nat.reduceAdd, Nat.reduceMul, Nat.zero_add, Nat.add_zero, Nat.reduceLeDiff, Nat.reduceEqDiff, eqV, eqAll, fillA, and_self, and_true, true_and, Nat.le_refl, Bool.not_true, Bool.not_false, Bool.false_xor, Bool.true_xor, cond_true, cond_false, List.replicate, if_false, reduceIte, resAll, resA, ne_eq, decide_not, decide_true, decide_false, Int.reduceEq, Bool.not_true, Bool.not_false, not_true_eq_false, not_false_eq_true, cond_bool, cond_int, beq_self_eq_true, Int.reduceBEq, Bool.and_self, Bool.and_false, Bool.false_and, Bool.xor_false, Bool.xor_true, loadN_ldC, ldC_none, ldC_somes, stC_aggs, splice, storeN_stC, stC_int, stC_bool, stC_ptr, stC_nilp, stC_sl, stC_nils, getC_gcO, gcO_cells, W_draw_eq, ↓W_scope, ev_clear, evT, evF, evX, evM, ↓exitQ_normal, ↓exitQ_ret, ↓exitQ_exit, saA_self, saO_self, if_pos, if_neg, wrapI, get_concat, set_concat, Int.toNat_natCast, Int.toNat_zero, List.nil_append, Nat.mul_one, decide_eq_true, decide_eq_false, Int.reduceLE, Int.reduceLT, Int.reduceNeg, Bool.false_or, Bool.true_or, Bool.or_false, Bool.or_true, wrapU, Int.reduceAdd, Int.reduceSub, Int.reduceMul]))
  all_goals (try simp_all)
def rightB (c : Cf) : Bool := inB c.n 1 8 && (inB c.q 2 64 && (decide (landI c.q (IntKind.i64.wrap (c.q - 1)) = 0) && (inB c.g 1 256 && (inB c.m (IntKind.i64.wrap (c.n + 1)) 16 && (inB c.t 2 200 && inB c.s 0 1000)))))
theorem rightB_eq (c : Cf) : rightB c = decide (rightP c) := by
  unfold rightB
  rw [Bool.eq_iff_iff]
  simp only [Bool.and_eq_true, inB_iff, decide_eq_true_eq]
  constructor
  · rintro ⟨h1, h2, h3, h4, h5, h6, h7⟩
    rw [wrapI (by omega) (by omega)] at h3 h5
    exact ⟨h1, (land_room h2.1 h2.2).1 h3, h4, h5, h6, h7⟩
  · rintro ⟨h1, h2, h4, h5, h6, h7⟩
    have hq : 2 ≤ c.q ∧ c.q ≤ 64 := by unfold roomP at h2; omega
    rw [wrapI (x := c.q - 1) (by omega) (by omega), wrapI (x := c.n + 1) (by omega) (by omega)]
    exact ⟨h1, hq, (land_room hq.1 hq.2).2 h2, h4, h5, h6, h7⟩
set_option maxHeartbeats 8000000 in
theorem right_run {m : Mem X} (c : Cf) : Fn [(176, c_conf_within)] conf_Config_Right [.agg (cfC c)] m (fun r m' => r = .bool (decide (rightP c)) ∧ m' = m ++ [.cells 6 false (cfC c)]) := by
  have a176 : assoc [(176, c_conf_within (X := X))] 176 = some c_conf_within := rfl
  generalize [(176, c_conf_within (X := X))] = G at a176
  have hw := fun (m : Mem X) a lo hi => Fn_eq (within_run (G := []) (m := m) a lo hi)
  refine Fn_of rfl ?_
  simp (disch := first | assumption | omega | (simp only [List.length_cons, List.length_nil, List.length_set, List.length_append] <;> omega) | (simp only [get_mid, get_mid0, List.cons_append, List.append_assoc, List.getElem?_cons_zero, List.getElem?_cons_succ])) only [conf_Config_Right, ek, ↓evW, ↓evQ, evB, evS, evL, List.map, AV.cells, List.all, AV.one, Bool.and_true, Bool.true_and, if_true, ↓thenQ_normal, ↓thenQ_exit, ↓thenQ_ret, ↓blockQ_normal, ↓blockQ_ret, ↓blockQ_exit, ↓CW_true, ↓CW_false, CW_true, CW_false, condT, condF, RQ_some, tupA_one, tupA_two, tupA_nil, Nat.reduceSub, Nat.reduceAdd, Nat.reduceMul, Nat.zero_add, Nat.add_zero, Nat.reduceLeDiff, Nat.reduceEqDiff, eqV, eqAll, fillA, and_self, and_true, true_and, Nat.le_refl, Bool.not_true, Bool.not_false, Bool.false_xor, Bool.true_xor, cond_true, cond_false, List.replicate, if_false, reduceIte, resAll, resA, ne_eq, decide_not, decide_true, decide_false, Int.reduceEq, Bool.not_true, Bool.not_false, not_true_eq_false, not_false_eq_true, cond_bool, cond_int, beq_self_eq_true, Int.reduceBEq, Bool.and_self, Bool.and_false, Bool.false_and, Bool.xor_false, Bool.xor_true, loadN_ldC, ldC_none, ldC_somes, stC_aggs, splice, storeN_stC, stC_int, stC_bool, stC_ptr, stC_nilp, stC_sl, stC_nils, getC_gcO, gcO_cells, W_draw_eq, ↓W_scope, ev_clear, evT, evF, evX, evM, ↓exitQ_normal, ↓exitQ_ret, ↓exitQ_exit, saA_self, saO_self, if_pos, if_neg, wrapI, get_concat, set_concat, Int.toNat_natCast, Int.toNat_zero, List.nil_append, Nat.mul_one, decide_eq_true, decide_eq_false, Int.reduceLE, Int.reduceLT, Int.reduceNeg, Bool.false_or, Bool.true_or, Bool.or_false, Bool.or_true, wrapU, Int.reduceAdd, Int.reduceSub, Int.reduceMul, List.append_assoc, List.length_append, get_mid, get_mid0, set_mid, set_mid0, List.length_set, List.length_cons, List.length_nil, List.cons_append, List.getElem?_append_left, List.set_append_left, get_at, get_at0, set_at, set_at0, List.getElem?_set_self, List.getElem?_set_ne, cfC, a176, c_conf_within, hw, evAnd]
  repeat' ((first | refine GK_of (fun h => ?_) (fun h => ?_) | refine CW_of (fun h => ?_) (fun h => ?_) | refine GKT_of (fun h => ?_) (fun h => ?_)) <;> (try simp only [Bool.not_eq_true', Bool.not_eq_false', decide_eq_true_eq, decide_eq_false_iff_not, Bool.and_eq_true, Bool.or_eq_true, Bool.and_eq_false_iff, Bool.or_eq_false_iff, Decidable.not_not] at h) <;> (try simp (disch := first | assumption | omega | (simp only [List.length_cons, List.length_nil, List.length_set, List.length_append] <;> omega) | (simp only [get_mid, get_mid0, List.cons_append, List.append_assoc, List.getElem?_cons_zero, List.getElem?_cons_succ])) only [ek, ↓evW, ↓evQ, evB, evS, evL, List.map, AV.cells, List.all, AV.one, Bool.and_true, Bool.true_and, if_true, ↓thenQ_normal, ↓thenQ_exit, ↓thenQ_ret, ↓blockQ_normal, ↓blockQ_ret, ↓blockQ_exit, ↓CW_true, ↓CW_false, CW_true, CW_false, condT, condF, RQ_some, tupA_one, tupA_two, tupA_nil, Nat.reduceSub, Nat.reduceAdd, Nat.reduceMul, Nat.zero_add, Nat.add_zero, Nat.reduceLeDiff, Nat.reduceEqDiff, eqV, eqAll, fillA, and_self, and_true, true_and, Nat.le_refl, Bool.not_true, Bool.not_false, Bool.false_xor, Bool.true_xor, cond_true, cond_false, List.replicate, if_false, reduceIte, resAll, resA, ne_eq, decide_not, decide_true, decide_false, Int.reduceEq, Bool.not_true, Bool.not_false, not_true_eq_false, not_false_eq_true, cond_bool, cond_int, beq_self_eq_true, Int.reduceBEq, Bool.and_self, Bool.and_false, Bool.false_and, Bool.xor_false, Bool.xor_true, loadN_ldC, ldC_none, ldC_somes, stC_aggs, splice, storeN_stC, stC_int, stC_bool, stC_ptr, stC_nilp, stC_sl, stC_nils, getC_gcO, gcO_cells, W_draw_eq, ↓W_scope, ev_clear, evT, evF, evX, evM, ↓exitQ_normal, ↓exitQ_ret, ↓exitQ_exit, saA_self, saO_self, if_pos, if_neg, wrapI, get_concat, set_concat, Int.toNat_natCast, Int.toNat_zero, List.nil_append, Nat.mul_one, decide_eq_true, decide_eq_false, Int.reduceLE, Int.reduceLT, Int.reduceNeg, Bool.false_or, Bool.true_or, Bool.or_false, Bool.or_true, wrapU, Int.reduceAdd, Int.reduceSub, Int.reduceMul, List.append_assoc, List.length_append, get_mid, get_mid0, set_mid, set_mid0, List.length_set, List.length_cons, List.length_nil, List.cons_append, List.getElem?_append_left, List.set_append_left, get_at, get_at0, set_at, set_at0, List.getElem?_set_self, List.getElem?_set_ne, cfC, a176, c_conf_within, hw, evAnd, h]))
  all_goals (rw [← rightB_eq]; simp_all [rightB])
def thereP (c : Cf) (p : Int) : Prop := rightP c ∧ 0 ≤ p ∧ p < c.n
instance (c : Cf) (p : Int) : Decidable (thereP c p) := by unfold thereP; infer_instance
def addrA (c : Cf) (p i : Int) : Int := if thereP c p then 4 + p * (6 + c.q) + i else -1
theorem there_bounds {c : Cf} {p : Int} (h : thereP c p) : 1 ≤ c.n ∧ c.n ≤ 8 ∧ 2 ≤ c.q ∧ c.q ≤ 64 ∧ 0 ≤ p ∧ p < 8 := by
  obtain ⟨⟨h1, h2, _⟩, h3, h4⟩ := h
  unfold roomP at h2
  omega
theorem mul_bounds {p q : Int} (h1 : 0 ≤ p) (h2 : p < 8) (h3 : 0 ≤ q) (h4 : q ≤ 70) : 0 ≤ p * q ∧ p * q ≤ 490 := by
  have h5 : p * q ≤ 7 * 70 := Int.mul_le_mul (by omega) h4 h3 (by omega)
  exact ⟨Int.mul_nonneg h1 h3, by omega⟩
set_option maxHeartbeats 8000000 in
theorem at_run {m : Mem X} (c : Cf) (p i : Int) (hi : 0 ≤ i) (hi2 : i ≤ 1000) : Fn [(157, c_conf_Config_Right), (176, c_conf_within)] conf_own_at [.agg (cfC c ++ [.int .i64 p]), .int .i64 i] m
    (fun r m' => r = .int .i64 (addrA c p i) ∧ m' = m ++ [.cells 7 false (cfC c ++ [.int .i64 p]), .cells 6 false (cfC c)]) := by
  have a157 : assoc [(157, c_conf_Config_Right (X := X)), (176, c_conf_within)] 157 = some c_conf_Config_Right := rfl
  have a176 : assoc [(157, c_conf_Config_Right (X := X)), (176, c_conf_within)] 176 = some c_conf_within := rfl
  have hR : ∀ m : Mem X, c_conf_Config_Right [.agg (cfC c)] m = some (.bool (decide (rightP c)), m ++ [.cells 6 false (cfC c)]) := fun m => Fn_eq (right_run c)
  generalize [(157, c_conf_Config_Right (X := X)), (176, c_conf_within)] = G at a157 a176
  have hw := fun (m : Mem X) a lo hi => Fn_eq (within_run (G := []) (m := m) a lo hi)
  simp only [cfC] at hR
  refine Fn_of rfl ?_
  by_cases hr : rightP c
  · rw [decide_eq_true hr] at hR
    have hn : 1 ≤ c.n ∧ c.n ≤ 8 := hr.1
    have hin : inB p 0 (c.n - 1) = decide (0 ≤ p ∧ p < c.n) := by
      rw [Bool.eq_iff_iff, inB_iff, decide_eq_true_eq]; omega
    by_cases hp : 0 ≤ p ∧ p < c.n
    · have ht : thereP c p := ⟨hr, hp⟩
      have hb := there_bounds ht
      have hm := mul_bounds hp.1 hb.2.2.2.2.2 (q := 6 + c.q) (by omega) (by omega)
      rw [decide_eq_true hp] at hin
      simp (disch := first | assumption | omega | (simp only [List.length_cons, List.length_nil, List.length_set, List.length_append] <;> omega) | (simp only [get_mid, get_mid0, List.cons_append, List.append_assoc, List.getElem?_cons_zero, List.getElem?_cons_succ])) only [conf_own_at, ek, ↓evW, ↓evQ, evB, evS, evL, List.map, AV.cells, List.all, AV.one, Bool.and_true, Bool.true_and, if_true, ↓thenQ_normal, ↓thenQ_exit, ↓thenQ_ret, ↓blockQ_normal, ↓blockQ_ret, ↓blockQ_exit, ↓CW_true, ↓CW_false, CW_true, CW_false, condT, condF, RQ_some, tupA_one, tupA_two, tupA_nil, Nat.reduceSub, Nat.reduceAdd, Nat.reduceMul, Nat.zero_add, Nat.add_zero, Nat.reduceLeDiff, Nat.reduceEqDiff, eqV, eqAll, fillA, and_self, and_true, true_and, Nat.le_refl, Bool.not_true, Bool.not_false, Bool.false_xor, Bool.true_xor, cond_true, cond_false, List.replicate, if_false, reduceIte, resAll, resA, ne_eq, decide_not, decide_true, decide_false, Int.reduceEq, Bool.not_true, Bool.not_false, not_true_eq_false, not_false_eq_true, cond_bool, cond_int, beq_self_eq_true, Int.reduceBEq, Bool.and_self, Bool.and_false, Bool.false_and, Bool.xor_false, Bool.xor_true, loadN_ldC, ldC_none, ldC_somes, stC_aggs, splice, storeN_stC, stC_int, stC_bool, stC_ptr, stC_nilp, stC_sl, stC_nils, getC_gcO, gcO_cells, W_draw_eq, ↓W_scope, ev_clear, evT, evF, evX, evM, ↓exitQ_normal, ↓exitQ_ret, ↓exitQ_exit, saA_self, saO_self, if_pos, if_neg, wrapI, get_concat, set_concat, Int.toNat_natCast, Int.toNat_zero, List.nil_append, Nat.mul_one, decide_eq_true, decide_eq_false, Int.reduceLE, Int.reduceLT, Int.reduceNeg, Bool.false_or, Bool.true_or, Bool.or_false, Bool.or_true, wrapU, Int.reduceAdd, Int.reduceSub, Int.reduceMul, List.append_assoc, List.length_append, get_mid, get_mid0, set_mid, set_mid0, List.length_set, List.length_cons, List.length_nil, List.cons_append, List.getElem?_append_left, List.set_append_left, get_at, get_at0, set_at, set_at0, List.getElem?_set_self, List.getElem?_set_ne, cfC, a157, hR, a176, c_conf_within, hw, hin]
      rw [addrA, if_pos ht]
    · have ht : ¬ thereP c p := fun h => hp h.2
      rw [decide_eq_false hp] at hin
      simp (disch := first | assumption | omega | (simp only [List.length_cons, List.length_nil, List.length_set, List.length_append] <;> omega) | (simp only [get_mid, get_mid0, List.cons_append, List.append_assoc, List.getElem?_cons_zero, List.getElem?_cons_succ])) only [conf_own_at, ek, ↓evW, ↓evQ, evB, evS, evL, List.map, AV.cells, List.all, AV.one, Bool.and_true, Bool.true_and, if_true, ↓thenQ_normal, ↓thenQ_exit, ↓thenQ_ret, ↓blockQ_normal, ↓blockQ_ret, ↓blockQ_exit, ↓CW_true, ↓CW_false, CW_true, CW_false, condT, condF, RQ_some, tupA_one, tupA_two, tupA_nil, Nat.reduceSub, Nat.reduceAdd, Nat.reduceMul, Nat.zero_add, Nat.add_zero, Nat.reduceLeDiff, Nat.reduceEqDiff, eqV, eqAll, fillA, and_self, and_true, true_and, Nat.le_refl, Bool.not_true, Bool.not_false, Bool.false_xor, Bool.true_xor, cond_true, cond_false, List.replicate, if_false, reduceIte, resAll, resA, ne_eq, decide_not, decide_true, decide_false, Int.reduceEq, Bool.not_true, Bool.not_false, not_true_eq_false, not_false_eq_true, cond_bool, cond_int, beq_self_eq_true, Int.reduceBEq, Bool.and_self, Bool.and_false, Bool.false_and, Bool.xor_false, Bool.xor_true, loadN_ldC, ldC_none, ldC_somes, stC_aggs, splice, storeN_stC, stC_int, stC_bool, stC_ptr, stC_nilp, stC_sl, stC_nils, getC_gcO, gcO_cells, W_draw_eq, ↓W_scope, ev_clear, evT, evF, evX, evM, ↓exitQ_normal, ↓exitQ_ret, ↓exitQ_exit, saA_self, saO_self, if_pos, if_neg, wrapI, get_concat, set_concat, Int.toNat_natCast, Int.toNat_zero, List.nil_append, Nat.mul_one, decide_eq_true, decide_eq_false, Int.reduceLE, Int.reduceLT, Int.reduceNeg, Bool.false_or, Bool.true_or, Bool.or_false, Bool.or_true, wrapU, Int.reduceAdd, Int.reduceSub, Int.reduceMul, List.append_assoc, List.length_append, get_mid, get_mid0, set_mid, set_mid0, List.length_set, List.length_cons, List.length_nil, List.cons_append, List.getElem?_append_left, List.set_append_left, get_at, get_at0, set_at, set_at0, List.getElem?_set_self, List.getElem?_set_ne, cfC, a157, hR, a176, c_conf_within, hw, hin]
      rw [addrA, if_neg ht]
  · have ht : ¬ thereP c p := fun h => hr h.1
    rw [decide_eq_false hr] at hR
    simp (disch := first | assumption | omega | (simp only [List.length_cons, List.length_nil, List.length_set, List.length_append] <;> omega) | (simp only [get_mid, get_mid0, List.cons_append, List.append_assoc, List.getElem?_cons_zero, List.getElem?_cons_succ])) only [conf_own_at, ek, ↓evW, ↓evQ, evB, evS, evL, List.map, AV.cells, List.all, AV.one, Bool.and_true, Bool.true_and, if_true, ↓thenQ_normal, ↓thenQ_exit, ↓thenQ_ret, ↓blockQ_normal, ↓blockQ_ret, ↓blockQ_exit, ↓CW_true, ↓CW_false, CW_true, CW_false, condT, condF, RQ_some, tupA_one, tupA_two, tupA_nil, Nat.reduceSub, Nat.reduceAdd, Nat.reduceMul, Nat.zero_add, Nat.add_zero, Nat.reduceLeDiff, Nat.reduceEqDiff, eqV, eqAll, fillA, and_self, and_true, true_and, Nat.le_refl, Bool.not_true, Bool.not_false, Bool.false_xor, Bool.true_xor, cond_true, cond_false, List.replicate, if_false, reduceIte, resAll, resA, ne_eq, decide_not, decide_true, decide_false, Int.reduceEq, Bool.not_true, Bool.not_false, not_true_eq_false, not_false_eq_true, cond_bool, cond_int, beq_self_eq_true, Int.reduceBEq, Bool.and_self, Bool.and_false, Bool.false_and, Bool.xor_false, Bool.xor_true, loadN_ldC, ldC_none, ldC_somes, stC_aggs, splice, storeN_stC, stC_int, stC_bool, stC_ptr, stC_nilp, stC_sl, stC_nils, getC_gcO, gcO_cells, W_draw_eq, ↓W_scope, ev_clear, evT, evF, evX, evM, ↓exitQ_normal, ↓exitQ_ret, ↓exitQ_exit, saA_self, saO_self, if_pos, if_neg, wrapI, get_concat, set_concat, Int.toNat_natCast, Int.toNat_zero, List.nil_append, Nat.mul_one, decide_eq_true, decide_eq_false, Int.reduceLE, Int.reduceLT, Int.reduceNeg, Bool.false_or, Bool.true_or, Bool.or_false, Bool.or_true, wrapU, Int.reduceAdd, Int.reduceSub, Int.reduceMul, List.append_assoc, List.length_append, get_mid, get_mid0, set_mid, set_mid0, List.length_set, List.length_cons, List.length_nil, List.cons_append, List.getElem?_append_left, List.set_append_left, get_at, get_at0, set_at, set_at0, List.getElem?_set_self, List.getElem?_set_ne, cfC, a157, hR]
    rw [addrA, if_neg ht]
theorem at_eq {m : Mem X} (c : Cf) (p i : Int) (hi : 0 ≤ i) (hi2 : i ≤ 1000) : c_conf_own_at [.agg (cfC c ++ [.int .i64 p]), .int .i64 i] m = some (.int .i64 (addrA c p i), m ++ [.cells 7 false (cfC c ++ [.int .i64 p]), .cells 6 false (cfC c)]) := by
  have he : c_conf_own_at (X := X) = amFunc [(157, c_conf_Config_Right), (176, c_conf_within)] conf_own_at := rfl
  rw [he]
  exact Fn_eq (at_run c p i hi hi2)
set_option maxHeartbeats 4000000 in
theorem word_run {m : Mem X} (c : Cf) (p : Int) : c_conf_Config_Word [.agg (cfC c), .int .i64 p] m = some (.int .i64 (addrA c p 0), m ++ [.cells 6 false (cfC c), .cells 7 false (cfC c ++ [.int .i64 p]), .cells 6 false (cfC c)]) := by
  have a177 : assoc [(177, c_conf_own_at (X := X))] 177 = some c_conf_own_at := rfl
  have he : c_conf_Config_Word (X := X) = amFunc [(177, c_conf_own_at)] conf_Config_Word := rfl
  have ha := at_eq (m := m ++ [.cells 6 false (cfC c)]) c p 0 (by omega) (by omega)
  rw [he]
  generalize [(177, c_conf_own_at (X := X))] = G at a177 ⊢
  simp only [cfC, List.append_assoc, List.cons_append, List.nil_append] at ha
  refine Fn_eq (Fn_of rfl ?_)
  simp (disch := first | assumption | omega | (simp only [List.length_cons, List.length_nil, List.length_set, List.length_append] <;> omega) | (simp only [get_mid, get_mid0, List.cons_append, List.append_assoc, List.getElem?_cons_zero, List.getElem?_cons_succ])) only [conf_Config_Word, ek, ↓evW, ↓evQ, evB, evS, evL, List.map, AV.cells, List.all, AV.one, Bool.and_true, Bool.true_and, if_true, ↓thenQ_normal, ↓thenQ_exit, ↓thenQ_ret, ↓blockQ_normal, ↓blockQ_ret, ↓blockQ_exit, ↓CW_true, ↓CW_false, CW_true, CW_false, condT, condF, RQ_some, tupA_one, tupA_two, tupA_nil, Nat.reduceSub, Nat.reduceAdd, Nat.reduceMul, Nat.zero_add, Nat.add_zero, Nat.reduceLeDiff, Nat.reduceEqDiff, eqV, eqAll, fillA, and_self, and_true, true_and, Nat.le_refl, Bool.not_true, Bool.not_false, Bool.false_xor, Bool.true_xor, cond_true, cond_false, List.replicate, if_false, reduceIte, resAll, resA, ne_eq, decide_not, decide_true, decide_false, Int.reduceEq, Bool.not_true, Bool.not_false, not_true_eq_false, not_false_eq_true, cond_bool, cond_int, beq_self_eq_true, Int.reduceBEq, Bool.and_self, Bool.and_false, Bool.false_and, Bool.xor_false, Bool.xor_true, loadN_ldC, ldC_none, ldC_somes, stC_aggs, splice, storeN_stC, stC_int, stC_bool, stC_ptr, stC_nilp, stC_sl, stC_nils, getC_gcO, gcO_cells, W_draw_eq, ↓W_scope, ev_clear, evT, evF, evX, evM, ↓exitQ_normal, ↓exitQ_ret, ↓exitQ_exit, saA_self, saO_self, if_pos, if_neg, wrapI, get_concat, set_concat, Int.toNat_natCast, Int.toNat_zero, List.nil_append, Nat.mul_one, decide_eq_true, decide_eq_false, Int.reduceLE, Int.reduceLT, Int.reduceNeg, Bool.false_or, Bool.true_or, Bool.or_false, Bool.or_true, wrapU, Int.reduceAdd, Int.reduceSub, Int.reduceMul, List.append_assoc, List.length_append, get_mid, get_mid0, set_mid, set_mid0, List.length_set, List.length_cons, List.length_nil, List.cons_append, List.getElem?_append_left, List.set_append_left, get_at, get_at0, set_at, set_at0, List.getElem?_set_self, List.getElem?_set_ne, cfC, a177, ha]
def getC (c : Cf) (p a w seen : Int) (has : Bool) (tries : Int) : List AV := cfC c ++ [.int .i64 p, .int .i64 a, .int .u64 w, .int .i64 seen, .bool has, .int .i64 tries]
def zeroC : Cf := ⟨0, 0, 0, 0, 0, 0⟩
theorem pick_run {G : List (Nat × AFun X)} {m : Mem X} (i n : Int) (hn : 0 < n) (hn2 : n ≤ 100000) : Fn G kit_Pick [.int .i64 i, .int .i64 n] m (fun r m' => r = .int .i64 (i % n) ∧ m' = m) := by
  refine Fn_of rfl ?_
  have h1 := Int.emod_nonneg i (b := n) (by omega)
  have h2 := Int.emod_lt_of_pos i hn
  have ht : (IntKind.i64.wrap (i.tmod n + n)).tmod n = i % n := by
    have h3 : -n < i.tmod n ∧ i.tmod n < n := by
      refine ⟨?_, Int.tmod_lt_of_pos i hn⟩
      have := Int.tmod_lt_of_pos (-i) hn
      rw [Int.neg_tmod] at this
      omega
    rw [wrapI (by omega) (by omega), Int.tmod_eq_emod_of_nonneg (by omega)]
    have hd : i.tmod n + n = i + n * (1 - i.tdiv n) := by
      have := Int.mul_tdiv_add_tmod i n
      rw [Int.mul_sub, Int.mul_one]; omega
    rw [hd, Int.add_mul_emod_self_left]
  simp (disch := first | assumption | omega | (simp only [List.length_cons, List.length_nil, List.length_set, List.length_append] <;> omega) | (simp only [get_mid, get_mid0, List.cons_append, List.append_assoc, List.getElem?_cons_zero, List.getElem?_cons_succ])) only [kit_Pick, ek, ↓evW, ↓evQ, evB, evS, evL, List.map, AV.cells, List.all, AV.one, Bool.and_true, Bool.true_and, if_true, ↓thenQ_normal, ↓thenQ_exit, ↓thenQ_ret, ↓blockQ_normal, ↓blockQ_ret, ↓blockQ_exit, ↓CW_true, ↓CW_false, CW_true, CW_false, condT, condF, RQ_some, tupA_one, tupA_two, tupA_nil, Nat.reduceSub, Nat.reduceAdd, Nat.reduceMul, Nat.zero_add, Nat.add_zero, Nat.reduceLeDiff, Nat.reduceEqDiff, eqV, eqAll, fillA, and_self, and_true, true_and, Nat.le_refl, Bool.not_true, Bool.not_false, Bool.false_xor, Bool.true_xor, cond_true, cond_false, List.replicate, if_false, reduceIte, resAll, resA, ne_eq, decide_not, decide_true, decide_false, Int.reduceEq, Bool.not_true, Bool.not_false, not_true_eq_false, not_false_eq_true, cond_bool, cond_int, beq_self_eq_true, Int.reduceBEq, Bool.and_self, Bool.and_false, Bool.false_and, Bool.xor_false, Bool.xor_true, loadN_ldC, ldC_none, ldC_somes, stC_aggs, splice, storeN_stC, stC_int, stC_bool, stC_ptr, stC_nilp, stC_sl, stC_nils, getC_gcO, gcO_cells, W_draw_eq, ↓W_scope, ev_clear, evT, evF, evX, evM, ↓exitQ_normal, ↓exitQ_ret, ↓exitQ_exit, saA_self, saO_self, if_pos, if_neg, wrapI, get_concat, set_concat, Int.toNat_natCast, Int.toNat_zero, List.nil_append, Nat.mul_one, decide_eq_true, decide_eq_false, Int.reduceLE, Int.reduceLT, Int.reduceNeg, Bool.false_or, Bool.true_or, Bool.or_false, Bool.or_true, wrapU, Int.reduceAdd, Int.reduceSub, Int.reduceMul, List.append_assoc, List.length_append, get_mid, get_mid0, set_mid, set_mid0, List.length_set, List.length_cons, List.length_nil, List.cons_append, List.getElem?_append_left, List.set_append_left, get_at, get_at0, set_at, set_at0, List.getElem?_set_self, List.getElem?_set_ne, ht]
end Go.Am.F10
end
section
namespace Go.Am.F10
variable {X : Type}
def worksG : List AV → Option AV
  | [] => some (.bool true)
  | _ => none
theorem works_run : ((c_law10_works (X := X)) [] []).map (·.1) = some (.bool true) := by kernel_rfl
theorem works_lift : Lift (c_law10_works (X := X)) (pureF worksG) := lift_pure (by
  intro args r h
  unfold worksG at h; split at h
  · injection h with h; subst h
    have := works_run (X := X)
    cases h1 : c_law10_works (X := X) [] [] with
    | none => rw [h1] at this; cases this
    | some x =>
      rw [h1] at this
      simp only [Option.map_some, Option.some.injEq] at this
      exact ⟨rfl, rfl, x.2, by rw [← this]⟩
  · cases h)
end Go.Am.F10
end
section
namespace Go.Am.F10
variable {X : Type}
theorem pick_eq (m : Mem X) (i n : Int) (hn : 0 < n) (hn2 : n ≤ 100000) : c_kit_Pick [.int .i64 i, .int .i64 n] m = some (.int .i64 (i % n), m) := Fn_eq (pick_run i n hn hn2)
def M0L (m : Mem X) (c : Cf) (p : Int) : Mem X := [.cells 6 false (cfC c), .cells 12 false (getC zeroC 0 0 0 0 false 0), .cells 1 false (List.replicate 20 (.int .u64 0)), .cells 8 false [.int .u64 0, .int .u64 0, .int .u64 0, .int .u64 0, .int .u64 0, .int .u64 0, .nils, .sl (m.length + 2) 0 20 (some 20)],
  .cells 6 false (cfC c), .cells 6 false (cfC c), .cells 7 false (cfC c ++ [.int .i64 (-1 - p % 9)]), .cells 6 false (cfC c), .cells 12 false (getC zeroC 0 0 0 0 false 0), .cells 1 false [.nilp, .ptr (m.length + 1) 0, .ptr (m.length + 4 + 4) 0]]
def M0 (m : Mem X) (c : Cf) (p : Int) : Mem X := m ++ M0L m c p
theorem cf_list {cs : List AV} (hl : cs.length = 6) {z0 z1 z2 z3 z4 z5 : Int} (h0 : cs[0]? = some (.int .i64 z0)) (h1 : cs[1]? = some (.int .i64 z1)) (h2 : cs[2]? = some (.int .i64 z2)) (h3 : cs[3]? = some (.int .i64 z3)) (h4 : cs[4]? = some (.int .i64 z4)) (h5 : cs[5]? = some (.int .i64 z5)) : cs = cfC ⟨z0, z1, z2, z3, z4, z5⟩ := by
  match cs, hl with
  | [x0, x1, x2, x3, x4, x5], _ =>
    simp only [List.getElem?_cons_zero, List.getElem?_cons_succ, Option.some.injEq] at h0 h1 h2 h3 h4 h5
    subst h0; subst h1; subst h2; subst h3; subst h4; subst h5; rfl
end Go.Am.F10
end
section
namespace Go.Am.F10
variable {X : Type}
def W64 (w : Int) : Prop := 0 ≤ w ∧ w < 18446744073709551616
def hd (w : Int) : Int := w / 4294967296
def tl (w : Int) : Int := w % 4294967296
def sz (w : Int) : Int := (tl w - hd w) % 4294967296
def pk (h t : Int) : Int := h * 4294967296 + t
theorem hd_b {w : Int} (h : W64 w) : 0 ≤ hd w ∧ hd w < 4294967296 := by unfold hd; unfold W64 at h; omega
theorem tl_b (w : Int) : 0 ≤ tl w ∧ tl w < 4294967296 := by unfold tl; omega
theorem wrap32 (z : Int) : IntKind.u32.wrap z = z % 4294967296 := by
  simp only [IntKind.wrap, IntKind.bits, IntKind.signed, Bool.false_and]; simp
theorem wrap64 (z : Int) : IntKind.u64.wrap z = z % 18446744073709551616 := by
  simp only [IntKind.wrap, IntKind.bits, IntKind.signed, Bool.false_and]; simp
theorem shr_eq {w : Int} : shfI .shr .u64 w 32 = some (.int .u64 (w / 4294967296)) := by
  have h1 : (Nat.min (32 : Int).toNat IntKind.u64.bits) = 32 := by decide
  have h2 : (2 : Int) ^ 32 = 4294967296 := by decide
  simp only [shfI, h1, h2]
  rw [if_neg (by omega), Int.fdiv_eq_ediv_of_nonneg _ (by omega)]
theorem shl_eq {h : Int} : shfI .shl .u64 h 32 = some (.int .u64 (IntKind.u64.wrap (h * 4294967296))) := by
  have h1 : (Nat.min (32 : Int).toNat IntKind.u64.bits) = 32 := by decide
  have h2 : (2 : Int) ^ 32 = 4294967296 := by decide
  simp only [shfI, h1, h2]
  rw [if_neg (by omega)]
theorem or_eq {h t : Int} (h0 : 0 ≤ h) (h1 : h < 4294967296) (t0 : 0 ≤ t) (t1 : t < 4294967296) : binI .or .u64 (h * 4294967296) t = some (.int .u64 (pk h t)) := by
  obtain ⟨a, rfl⟩ : ∃ a : Nat, h = a := ⟨h.toNat, by omega⟩
  obtain ⟨b, rfl⟩ : ∃ b : Nat, t = b := ⟨t.toNat, by omega⟩
  have e1 : ((a : Int) * 4294967296) = ((a * 4294967296 : Nat) : Int) := by simp
  have hb : b < 2 ^ 32 := by omega
  have key : (BitVec.ofInt 64 ((a * 4294967296 : Nat) : Int) ||| BitVec.ofInt 64 (b : Int)).toNat = a * 4294967296 + b := by
    rw [BitVec.toNat_or, BitVec.ofInt_natCast, BitVec.ofInt_natCast, BitVec.toNat_ofNat, BitVec.toNat_ofNat, Nat.mod_eq_of_lt (by omega), Nat.mod_eq_of_lt (by omega)]
    have := Nat.shiftLeft_add_eq_or_of_lt hb a
    rw [Nat.shiftLeft_eq] at this
    exact this.symm
  show some (AV.int .u64 (IntKind.u64.wrap ((BitVec.ofInt 64 ((a : Int) * 4294967296) ||| BitVec.ofInt 64 (b : Int)).toNat : Int))) = _
  rw [e1, key, wrap64]
  unfold pk
  congr 2
  omega
theorem head_eq (m : Mem X) {w : Int} (h : W64 w) : c_word_Head [.int .u64 w] m = some (.int .u32 (hd w), m) := by
  have hw : IntKind.u32.wrap (w / 4294967296) = hd w := by rw [wrap32]; unfold hd W64 at *; omega
  refine Fn_eq (Fn_of rfl ?_)
  simp (disch := first | assumption | omega | (simp only [List.length_cons, List.length_nil, List.length_set, List.length_append] <;> omega) | (simp only [get_mid, get_mid0, List.cons_append, List.append_assoc, List.getElem?_cons_zero, List.getElem?_cons_succ])) only [word_Head, ek, ↓evW, ↓evQ, evB, evS, evL, List.map, AV.cells, List.all, AV.one, Bool.and_true, Bool.true_and, if_true, ↓thenQ_normal, ↓thenQ_exit, ↓thenQ_ret, ↓blockQ_normal, ↓blockQ_ret, ↓blockQ_exit, ↓CW_true, ↓CW_false, CW_true, CW_false, condT, condF, RQ_some, tupA_one, tupA_two, tupA_nil, Nat.reduceSub, Nat.reduceAdd, Nat.reduceMul, Nat.zero_add, Nat.add_zero, Nat.reduceLeDiff, Nat.reduceEqDiff, eqV, eqAll, fillA, and_self, and_true, true_and, Nat.le_refl, Bool.not_true, Bool.not_false, Bool.false_xor, Bool.true_xor, cond_true, cond_false, List.replicate, if_false, reduceIte, resAll, resA, ne_eq, decide_not, decide_true, decide_false, Int.reduceEq, Bool.not_true, Bool.not_false, not_true_eq_false, not_false_eq_true, cond_bool, cond_int, beq_self_eq_true, Int.reduceBEq, Bool.and_self, Bool.and_false, Bool.false_and, Bool.xor_false, Bool.xor_true, loadN_ldC, ldC_none, ldC_somes, stC_aggs, splice, storeN_stC, stC_int, stC_bool, stC_ptr, stC_nilp, stC_sl, stC_nils, getC_gcO, gcO_cells, W_draw_eq, ↓W_scope, ev_clear, evT, evF, evX, evM, ↓exitQ_normal, ↓exitQ_ret, ↓exitQ_exit, saA_self, saO_self, if_pos, if_neg, wrapI, get_concat, set_concat, Int.toNat_natCast, Int.toNat_zero, List.nil_append, Nat.mul_one, decide_eq_true, decide_eq_false, Int.reduceLE, Int.reduceLT, Int.reduceNeg, Bool.false_or, Bool.true_or, Bool.or_false, Bool.or_true, wrapU, Int.reduceAdd, Int.reduceSub, Int.reduceMul, List.append_assoc, List.length_append, get_mid, get_mid0, set_mid, set_mid0, List.length_set, List.length_cons, List.length_nil, List.cons_append, List.getElem?_append_left, List.set_append_left, get_at, get_at0, set_at, set_at0, List.getElem?_set_self, List.getElem?_set_ne, shr_eq, hw]
theorem tail_eq (m : Mem X) (w : Int) : c_word_Tail [.int .u64 w] m = some (.int .u32 (tl w), m) := by
  have hw : IntKind.u32.wrap w = tl w := by rw [wrap32]; rfl
  refine Fn_eq (Fn_of rfl ?_)
  simp (disch := first | assumption | omega | (simp only [List.length_cons, List.length_nil, List.length_set, List.length_append] <;> omega) | (simp only [get_mid, get_mid0, List.cons_append, List.append_assoc, List.getElem?_cons_zero, List.getElem?_cons_succ])) only [word_Tail, ek, ↓evW, ↓evQ, evB, evS, evL, List.map, AV.cells, List.all, AV.one, Bool.and_true, Bool.true_and, if_true, ↓thenQ_normal, ↓thenQ_exit, ↓thenQ_ret, ↓blockQ_normal, ↓blockQ_ret, ↓blockQ_exit, ↓CW_true, ↓CW_false, CW_true, CW_false, condT, condF, RQ_some, tupA_one, tupA_two, tupA_nil, Nat.reduceSub, Nat.reduceAdd, Nat.reduceMul, Nat.zero_add, Nat.add_zero, Nat.reduceLeDiff, Nat.reduceEqDiff, eqV, eqAll, fillA, and_self, and_true, true_and, Nat.le_refl, Bool.not_true, Bool.not_false, Bool.false_xor, Bool.true_xor, cond_true, cond_false, List.replicate, if_false, reduceIte, resAll, resA, ne_eq, decide_not, decide_true, decide_false, Int.reduceEq, Bool.not_true, Bool.not_false, not_true_eq_false, not_false_eq_true, cond_bool, cond_int, beq_self_eq_true, Int.reduceBEq, Bool.and_self, Bool.and_false, Bool.false_and, Bool.xor_false, Bool.xor_true, loadN_ldC, ldC_none, ldC_somes, stC_aggs, splice, storeN_stC, stC_int, stC_bool, stC_ptr, stC_nilp, stC_sl, stC_nils, getC_gcO, gcO_cells, W_draw_eq, ↓W_scope, ev_clear, evT, evF, evX, evM, ↓exitQ_normal, ↓exitQ_ret, ↓exitQ_exit, saA_self, saO_self, if_pos, if_neg, wrapI, get_concat, set_concat, Int.toNat_natCast, Int.toNat_zero, List.nil_append, Nat.mul_one, decide_eq_true, decide_eq_false, Int.reduceLE, Int.reduceLT, Int.reduceNeg, Bool.false_or, Bool.true_or, Bool.or_false, Bool.or_true, wrapU, Int.reduceAdd, Int.reduceSub, Int.reduceMul, List.append_assoc, List.length_append, get_mid, get_mid0, set_mid, set_mid0, List.length_set, List.length_cons, List.length_nil, List.cons_append, List.getElem?_append_left, List.set_append_left, get_at, get_at0, set_at, set_at0, List.getElem?_set_self, List.getElem?_set_ne, hw]
theorem len_eq (m : Mem X) {w : Int} (h : W64 w) : c_word_Len [.int .u64 w] m = some (.int .u32 (sz w), m) := by
  have a182 : assoc [(182, c_word_Tail (X := X)), (179, c_word_Head)] 182 = some c_word_Tail := rfl
  have a179 : assoc [(182, c_word_Tail (X := X)), (179, c_word_Head)] 179 = some c_word_Head := rfl
  have he : c_word_Len (X := X) = amFunc [(182, c_word_Tail), (179, c_word_Head)] word_Len := rfl
  rw [he]
  generalize [(182, c_word_Tail (X := X)), (179, c_word_Head)] = G at a182 a179 ⊢
  have h1 := head_eq m h
  have h2 := tail_eq m w
  have hw : IntKind.u32.wrap (tl w - hd w) = sz w := by rw [wrap32]; rfl
  refine Fn_eq (Fn_of rfl ?_)
  simp (disch := first | assumption | omega | (simp only [List.length_cons, List.length_nil, List.length_set, List.length_append] <;> omega) | (simp only [get_mid, get_mid0, List.cons_append, List.append_assoc, List.getElem?_cons_zero, List.getElem?_cons_succ])) only [word_Len, ek, ↓evW, ↓evQ, evB, evS, evL, List.map, AV.cells, List.all, AV.one, Bool.and_true, Bool.true_and, if_true, ↓thenQ_normal, ↓thenQ_exit, ↓thenQ_ret, ↓blockQ_normal, ↓blockQ_ret, ↓blockQ_exit, ↓CW_true, ↓CW_false, CW_true, CW_false, condT, condF, RQ_some, tupA_one, tupA_two, tupA_nil, Nat.reduceSub, Nat.reduceAdd, Nat.reduceMul, Nat.zero_add, Nat.add_zero, Nat.reduceLeDiff, Nat.reduceEqDiff, eqV, eqAll, fillA, and_self, and_true, true_and, Nat.le_refl, Bool.not_true, Bool.not_false, Bool.false_xor, Bool.true_xor, cond_true, cond_false, List.replicate, if_false, reduceIte, resAll, resA, ne_eq, decide_not, decide_true, decide_false, Int.reduceEq, Bool.not_true, Bool.not_false, not_true_eq_false, not_false_eq_true, cond_bool, cond_int, beq_self_eq_true, Int.reduceBEq, Bool.and_self, Bool.and_false, Bool.false_and, Bool.xor_false, Bool.xor_true, loadN_ldC, ldC_none, ldC_somes, stC_aggs, splice, storeN_stC, stC_int, stC_bool, stC_ptr, stC_nilp, stC_sl, stC_nils, getC_gcO, gcO_cells, W_draw_eq, ↓W_scope, ev_clear, evT, evF, evX, evM, ↓exitQ_normal, ↓exitQ_ret, ↓exitQ_exit, saA_self, saO_self, if_pos, if_neg, wrapI, get_concat, set_concat, Int.toNat_natCast, Int.toNat_zero, List.nil_append, Nat.mul_one, decide_eq_true, decide_eq_false, Int.reduceLE, Int.reduceLT, Int.reduceNeg, Bool.false_or, Bool.true_or, Bool.or_false, Bool.or_true, wrapU, Int.reduceAdd, Int.reduceSub, Int.reduceMul, List.append_assoc, List.length_append, get_mid, get_mid0, set_mid, set_mid0, List.length_set, List.length_cons, List.length_nil, List.cons_append, List.getElem?_append_left, List.set_append_left, get_at, get_at0, set_at, set_at0, List.getElem?_set_self, List.getElem?_set_ne, a182, a179, h1, h2, hw]
theorem pack_eq (m : Mem X) {h t : Int} (h0 : 0 ≤ h) (h1 : h < 4294967296) (t0 : 0 ≤ t) (t1 : t < 4294967296) : c_word_Pack [.int .u32 h, .int .u32 t] m = some (.int .u64 (pk h t), m) := by
  have e1 : IntKind.u64.wrap h = h := wrapU h0 (by omega)
  have e2 : IntKind.u64.wrap t = t := wrapU t0 (by omega)
  have e3 : IntKind.u64.wrap (h * 4294967296) = h * 4294967296 := wrapU (by omega) (by omega)
  have e4 := or_eq h0 h1 t0 t1
  refine Fn_eq (Fn_of rfl ?_)
  simp (disch := first | assumption | omega | (simp only [List.length_cons, List.length_nil, List.length_set, List.length_append] <;> omega) | (simp only [get_mid, get_mid0, List.cons_append, List.append_assoc, List.getElem?_cons_zero, List.getElem?_cons_succ])) only [word_Pack, ek, ↓evW, ↓evQ, evB, evS, evL, List.map, AV.cells, List.all, AV.one, Bool.and_true, Bool.true_and, if_true, ↓thenQ_normal, ↓thenQ_exit, ↓thenQ_ret, ↓blockQ_normal, ↓blockQ_ret, ↓blockQ_exit, ↓CW_true, ↓CW_false, CW_true, CW_false, condT, condF, RQ_some, tupA_one, tupA_two, tupA_nil, Nat.reduceSub, Nat.reduceAdd, Nat.reduceMul, Nat.zero_add, Nat.add_zero, Nat.reduceLeDiff, Nat.reduceEqDiff, eqV, eqAll, fillA, and_self, and_true, true_and, Nat.le_refl, Bool.not_true, Bool.not_false, Bool.false_xor, Bool.true_xor, cond_true, cond_false, List.replicate, if_false, reduceIte, resAll, resA, ne_eq, decide_not, decide_true, decide_false, Int.reduceEq, Bool.not_true, Bool.not_false, not_true_eq_false, not_false_eq_true, cond_bool, cond_int, beq_self_eq_true, Int.reduceBEq, Bool.and_self, Bool.and_false, Bool.false_and, Bool.xor_false, Bool.xor_true, loadN_ldC, ldC_none, ldC_somes, stC_aggs, splice, storeN_stC, stC_int, stC_bool, stC_ptr, stC_nilp, stC_sl, stC_nils, getC_gcO, gcO_cells, W_draw_eq, ↓W_scope, ev_clear, evT, evF, evX, evM, ↓exitQ_normal, ↓exitQ_ret, ↓exitQ_exit, saA_self, saO_self, if_pos, if_neg, wrapI, get_concat, set_concat, Int.toNat_natCast, Int.toNat_zero, List.nil_append, Nat.mul_one, decide_eq_true, decide_eq_false, Int.reduceLE, Int.reduceLT, Int.reduceNeg, Bool.false_or, Bool.true_or, Bool.or_false, Bool.or_true, wrapU, Int.reduceAdd, Int.reduceSub, Int.reduceMul, List.append_assoc, List.length_append, get_mid, get_mid0, set_mid, set_mid0, List.length_set, List.length_cons, List.length_nil, List.cons_append, List.getElem?_append_left, List.set_append_left, get_at, get_at0, set_at, set_at0, List.getElem?_set_self, List.getElem?_set_ne, e1, e2, shl_eq, e3, e4]
def gainW (w : Int) : Int := pk ((hd w + 1) % 4294967296) (tl w)
theorem rhead_eq (m : Mem X) {w : Int} (h : W64 w) : c_ref09_Head [.int .u64 w] m = some (.int .u32 (hd w), m) := by
  have hw : IntKind.u32.wrap (IntKind.u64.wrap (w.tdiv 4294967296)) = hd w := by
    unfold W64 at h
    rw [Int.tdiv_eq_ediv_of_nonneg h.1, wrapU (by omega) (by omega), wrap32]; unfold hd; omega
  refine Fn_eq (Fn_of rfl ?_)
  simp (disch := first | assumption | omega | (simp only [List.length_cons, List.length_nil, List.length_set, List.length_append] <;> omega) | (simp only [get_mid, get_mid0, List.cons_append, List.append_assoc, List.getElem?_cons_zero, List.getElem?_cons_succ])) only [ref09_Head, ek, ↓evW, ↓evQ, evB, evS, evL, List.map, AV.cells, List.all, AV.one, Bool.and_true, Bool.true_and, if_true, ↓thenQ_normal, ↓thenQ_exit, ↓thenQ_ret, ↓blockQ_normal, ↓blockQ_ret, ↓blockQ_exit, ↓CW_true, ↓CW_false, CW_true, CW_false, condT, condF, RQ_some, tupA_one, tupA_two, tupA_nil, Nat.reduceSub, Nat.reduceAdd, Nat.reduceMul, Nat.zero_add, Nat.add_zero, Nat.reduceLeDiff, Nat.reduceEqDiff, eqV, eqAll, fillA, and_self, and_true, true_and, Nat.le_refl, Bool.not_true, Bool.not_false, Bool.false_xor, Bool.true_xor, cond_true, cond_false, List.replicate, if_false, reduceIte, resAll, resA, ne_eq, decide_not, decide_true, decide_false, Int.reduceEq, Bool.not_true, Bool.not_false, not_true_eq_false, not_false_eq_true, cond_bool, cond_int, beq_self_eq_true, Int.reduceBEq, Bool.and_self, Bool.and_false, Bool.false_and, Bool.xor_false, Bool.xor_true, loadN_ldC, ldC_none, ldC_somes, stC_aggs, splice, storeN_stC, stC_int, stC_bool, stC_ptr, stC_nilp, stC_sl, stC_nils, getC_gcO, gcO_cells, W_draw_eq, ↓W_scope, ev_clear, evT, evF, evX, evM, ↓exitQ_normal, ↓exitQ_ret, ↓exitQ_exit, saA_self, saO_self, if_pos, if_neg, wrapI, get_concat, set_concat, Int.toNat_natCast, Int.toNat_zero, List.nil_append, Nat.mul_one, decide_eq_true, decide_eq_false, Int.reduceLE, Int.reduceLT, Int.reduceNeg, Bool.false_or, Bool.true_or, Bool.or_false, Bool.or_true, wrapU, Int.reduceAdd, Int.reduceSub, Int.reduceMul, List.append_assoc, List.length_append, get_mid, get_mid0, set_mid, set_mid0, List.length_set, List.length_cons, List.length_nil, List.cons_append, List.getElem?_append_left, List.set_append_left, get_at, get_at0, set_at, set_at0, List.getElem?_set_self, List.getElem?_set_ne, hw]
theorem rtail_eq (m : Mem X) {w : Int} (h : W64 w) : c_ref09_Tail [.int .u64 w] m = some (.int .u32 (tl w), m) := by
  have hw : IntKind.u32.wrap (w.tmod 4294967296) = tl w := by
    unfold W64 at h
    rw [Int.tmod_eq_emod_of_nonneg h.1, wrap32]; unfold tl; omega
  refine Fn_eq (Fn_of rfl ?_)
  simp (disch := first | assumption | omega | (simp only [List.length_cons, List.length_nil, List.length_set, List.length_append] <;> omega) | (simp only [get_mid, get_mid0, List.cons_append, List.append_assoc, List.getElem?_cons_zero, List.getElem?_cons_succ])) only [ref09_Tail, ek, ↓evW, ↓evQ, evB, evS, evL, List.map, AV.cells, List.all, AV.one, Bool.and_true, Bool.true_and, if_true, ↓thenQ_normal, ↓thenQ_exit, ↓thenQ_ret, ↓blockQ_normal, ↓blockQ_ret, ↓blockQ_exit, ↓CW_true, ↓CW_false, CW_true, CW_false, condT, condF, RQ_some, tupA_one, tupA_two, tupA_nil, Nat.reduceSub, Nat.reduceAdd, Nat.reduceMul, Nat.zero_add, Nat.add_zero, Nat.reduceLeDiff, Nat.reduceEqDiff, eqV, eqAll, fillA, and_self, and_true, true_and, Nat.le_refl, Bool.not_true, Bool.not_false, Bool.false_xor, Bool.true_xor, cond_true, cond_false, List.replicate, if_false, reduceIte, resAll, resA, ne_eq, decide_not, decide_true, decide_false, Int.reduceEq, Bool.not_true, Bool.not_false, not_true_eq_false, not_false_eq_true, cond_bool, cond_int, beq_self_eq_true, Int.reduceBEq, Bool.and_self, Bool.and_false, Bool.false_and, Bool.xor_false, Bool.xor_true, loadN_ldC, ldC_none, ldC_somes, stC_aggs, splice, storeN_stC, stC_int, stC_bool, stC_ptr, stC_nilp, stC_sl, stC_nils, getC_gcO, gcO_cells, W_draw_eq, ↓W_scope, ev_clear, evT, evF, evX, evM, ↓exitQ_normal, ↓exitQ_ret, ↓exitQ_exit, saA_self, saO_self, if_pos, if_neg, wrapI, get_concat, set_concat, Int.toNat_natCast, Int.toNat_zero, List.nil_append, Nat.mul_one, decide_eq_true, decide_eq_false, Int.reduceLE, Int.reduceLT, Int.reduceNeg, Bool.false_or, Bool.true_or, Bool.or_false, Bool.or_true, wrapU, Int.reduceAdd, Int.reduceSub, Int.reduceMul, List.append_assoc, List.length_append, get_mid, get_mid0, set_mid, set_mid0, List.length_set, List.length_cons, List.length_nil, List.cons_append, List.getElem?_append_left, List.set_append_left, get_at, get_at0, set_at, set_at0, List.getElem?_set_self, List.getElem?_set_ne, hw]
theorem rsize_eq (m : Mem X) {w : Int} (h : W64 w) : c_ref09_Size [.int .u64 w] m = some (.int .u32 (sz w), m) := by
  have a171 : assoc [(171, c_ref09_Tail (X := X)), (170, c_ref09_Head)] 171 = some c_ref09_Tail := rfl
  have a170 : assoc [(171, c_ref09_Tail (X := X)), (170, c_ref09_Head)] 170 = some c_ref09_Head := rfl
  have he : c_ref09_Size (X := X) = amFunc [(171, c_ref09_Tail), (170, c_ref09_Head)] ref09_Size := rfl
  rw [he]
  generalize [(171, c_ref09_Tail (X := X)), (170, c_ref09_Head)] = G at a171 a170 ⊢
  have h1 := rhead_eq m h
  have h2 := rtail_eq m h
  have hw : IntKind.u32.wrap (tl w - hd w) = sz w := by rw [wrap32]; rfl
  refine Fn_eq (Fn_of rfl ?_)
  simp (disch := first | assumption | omega | (simp only [List.length_cons, List.length_nil, List.length_set, List.length_append] <;> omega) | (simp only [get_mid, get_mid0, List.cons_append, List.append_assoc, List.getElem?_cons_zero, List.getElem?_cons_succ])) only [ref09_Size, ek, ↓evW, ↓evQ, evB, evS, evL, List.map, AV.cells, List.all, AV.one, Bool.and_true, Bool.true_and, if_true, ↓thenQ_normal, ↓thenQ_exit, ↓thenQ_ret, ↓blockQ_normal, ↓blockQ_ret, ↓blockQ_exit, ↓CW_true, ↓CW_false, CW_true, CW_false, condT, condF, RQ_some, tupA_one, tupA_two, tupA_nil, Nat.reduceSub, Nat.reduceAdd, Nat.reduceMul, Nat.zero_add, Nat.add_zero, Nat.reduceLeDiff, Nat.reduceEqDiff, eqV, eqAll, fillA, and_self, and_true, true_and, Nat.le_refl, Bool.not_true, Bool.not_false, Bool.false_xor, Bool.true_xor, cond_true, cond_false, List.replicate, if_false, reduceIte, resAll, resA, ne_eq, decide_not, decide_true, decide_false, Int.reduceEq, Bool.not_true, Bool.not_false, not_true_eq_false, not_false_eq_true, cond_bool, cond_int, beq_self_eq_true, Int.reduceBEq, Bool.and_self, Bool.and_false, Bool.false_and, Bool.xor_false, Bool.xor_true, loadN_ldC, ldC_none, ldC_somes, stC_aggs, splice, storeN_stC, stC_int, stC_bool, stC_ptr, stC_nilp, stC_sl, stC_nils, getC_gcO, gcO_cells, W_draw_eq, ↓W_scope, ev_clear, evT, evF, evX, evM, ↓exitQ_normal, ↓exitQ_ret, ↓exitQ_exit, saA_self, saO_self, if_pos, if_neg, wrapI, get_concat, set_concat, Int.toNat_natCast, Int.toNat_zero, List.nil_append, Nat.mul_one, decide_eq_true, decide_eq_false, Int.reduceLE, Int.reduceLT, Int.reduceNeg, Bool.false_or, Bool.true_or, Bool.or_false, Bool.or_true, wrapU, Int.reduceAdd, Int.reduceSub, Int.reduceMul, List.append_assoc, List.length_append, get_mid, get_mid0, set_mid, set_mid0, List.length_set, List.length_cons, List.length_nil, List.cons_append, List.getElem?_append_left, List.set_append_left, get_at, get_at0, set_at, set_at0, List.getElem?_set_self, List.getElem?_set_ne, a171, a170, h1, h2, hw]
theorem rpack_eq (m : Mem X) {h t : Int} (h0 : 0 ≤ h) (h1 : h < 4294967296) (t0 : 0 ≤ t) (t1 : t < 4294967296) : c_ref09_Pack [.int .u32 h, .int .u32 t] m = some (.int .u64 (pk h t), m) := by
  have e1 : IntKind.u64.wrap h = h := wrapU h0 (by omega)
  have e2 : IntKind.u64.wrap t = t := wrapU t0 (by omega)
  have e3 : IntKind.u64.wrap (h * 4294967296) = h * 4294967296 := wrapU (by omega) (by omega)
  have e4 : IntKind.u64.wrap (h * 4294967296 + t) = pk h t := by rw [wrapU (by omega) (by omega)]; rfl
  refine Fn_eq (Fn_of rfl ?_)
  simp (disch := first | assumption | omega | (simp only [List.length_cons, List.length_nil, List.length_set, List.length_append] <;> omega) | (simp only [get_mid, get_mid0, List.cons_append, List.append_assoc, List.getElem?_cons_zero, List.getElem?_cons_succ])) only [ref09_Pack, ek, ↓evW, ↓evQ, evB, evS, evL, List.map, AV.cells, List.all, AV.one, Bool.and_true, Bool.true_and, if_true, ↓thenQ_normal, ↓thenQ_exit, ↓thenQ_ret, ↓blockQ_normal, ↓blockQ_ret, ↓blockQ_exit, ↓CW_true, ↓CW_false, CW_true, CW_false, condT, condF, RQ_some, tupA_one, tupA_two, tupA_nil, Nat.reduceSub, Nat.reduceAdd, Nat.reduceMul, Nat.zero_add, Nat.add_zero, Nat.reduceLeDiff, Nat.reduceEqDiff, eqV, eqAll, fillA, and_self, and_true, true_and, Nat.le_refl, Bool.not_true, Bool.not_false, Bool.false_xor, Bool.true_xor, cond_true, cond_false, List.replicate, if_false, reduceIte, resAll, resA, ne_eq, decide_not, decide_true, decide_false, Int.reduceEq, Bool.not_true, Bool.not_false, not_true_eq_false, not_false_eq_true, cond_bool, cond_int, beq_self_eq_true, Int.reduceBEq, Bool.and_self, Bool.and_false, Bool.false_and, Bool.xor_false, Bool.xor_true, loadN_ldC, ldC_none, ldC_somes, stC_aggs, splice, storeN_stC, stC_int, stC_bool, stC_ptr, stC_nilp, stC_sl, stC_nils, getC_gcO, gcO_cells, W_draw_eq, ↓W_scope, ev_clear, evT, evF, evX, evM, ↓exitQ_normal, ↓exitQ_ret, ↓exitQ_exit, saA_self, saO_self, if_pos, if_neg, wrapI, get_concat, set_concat, Int.toNat_natCast, Int.toNat_zero, List.nil_append, Nat.mul_one, decide_eq_true, decide_eq_false, Int.reduceLE, Int.reduceLT, Int.reduceNeg, Bool.false_or, Bool.true_or, Bool.or_false, Bool.or_true, wrapU, Int.reduceAdd, Int.reduceSub, Int.reduceMul, List.append_assoc, List.length_append, get_mid, get_mid0, set_mid, set_mid0, List.length_set, List.length_cons, List.length_nil, List.cons_append, List.getElem?_append_left, List.set_append_left, get_at, get_at0, set_at, set_at0, List.getElem?_set_self, List.getElem?_set_ne, e1, e2, e3, e4]
def wordA (c : Cf) (p : Int) : Int := 4 + p * (6 + c.q)
theorem rword_eq (m : Mem X) {c : Cf} {p : Int} (h : thereP c p) : c_ref09_Word [.agg (cfC c), .int .i64 p] m = some (.int .i64 (wordA c p), m ++ [.cells 6 false (cfC c)]) := by
  have hb := there_bounds h
  have hm := mul_bounds hb.2.2.2.2.1 hb.2.2.2.2.2 (q := 6 + c.q) (by omega) (by omega)
  have e1 : IntKind.i64.wrap (6 + c.q) = 6 + c.q := wrapI (by omega) (by omega)
  have e2 : IntKind.i64.wrap (p * (6 + c.q)) = p * (6 + c.q) := wrapI (by omega) (by omega)
  have e3 : IntKind.i64.wrap (4 + p * (6 + c.q)) = wordA c p := by rw [wrapI (by omega) (by omega)]; rfl
  refine Fn_eq (Fn_of rfl ?_)
  simp (disch := first | assumption | omega | (simp only [List.length_cons, List.length_nil, List.length_set, List.length_append] <;> omega) | (simp only [get_mid, get_mid0, List.cons_append, List.append_assoc, List.getElem?_cons_zero, List.getElem?_cons_succ])) only [ref09_Word, ek, ↓evW, ↓evQ, evB, evS, evL, List.map, AV.cells, List.all, AV.one, Bool.and_true, Bool.true_and, if_true, ↓thenQ_normal, ↓thenQ_exit, ↓thenQ_ret, ↓blockQ_normal, ↓blockQ_ret, ↓blockQ_exit, ↓CW_true, ↓CW_false, CW_true, CW_false, condT, condF, RQ_some, tupA_one, tupA_two, tupA_nil, Nat.reduceSub, Nat.reduceAdd, Nat.reduceMul, Nat.zero_add, Nat.add_zero, Nat.reduceLeDiff, Nat.reduceEqDiff, eqV, eqAll, fillA, and_self, and_true, true_and, Nat.le_refl, Bool.not_true, Bool.not_false, Bool.false_xor, Bool.true_xor, cond_true, cond_false, List.replicate, if_false, reduceIte, resAll, resA, ne_eq, decide_not, decide_true, decide_false, Int.reduceEq, Bool.not_true, Bool.not_false, not_true_eq_false, not_false_eq_true, cond_bool, cond_int, beq_self_eq_true, Int.reduceBEq, Bool.and_self, Bool.and_false, Bool.false_and, Bool.xor_false, Bool.xor_true, loadN_ldC, ldC_none, ldC_somes, stC_aggs, splice, storeN_stC, stC_int, stC_bool, stC_ptr, stC_nilp, stC_sl, stC_nils, getC_gcO, gcO_cells, W_draw_eq, ↓W_scope, ev_clear, evT, evF, evX, evM, ↓exitQ_normal, ↓exitQ_ret, ↓exitQ_exit, saA_self, saO_self, if_pos, if_neg, wrapI, get_concat, set_concat, Int.toNat_natCast, Int.toNat_zero, List.nil_append, Nat.mul_one, decide_eq_true, decide_eq_false, Int.reduceLE, Int.reduceLT, Int.reduceNeg, Bool.false_or, Bool.true_or, Bool.or_false, Bool.or_true, wrapU, Int.reduceAdd, Int.reduceSub, Int.reduceMul, List.append_assoc, List.length_append, get_mid, get_mid0, set_mid, set_mid0, List.length_set, List.length_cons, List.length_nil, List.cons_append, List.getElem?_append_left, List.set_append_left, get_at, get_at0, set_at, set_at0, List.getElem?_set_self, List.getElem?_set_ne, cfC, e1, e2, e3]
end Go.Am.F10
end
section
namespace Go.Am.F10
variable {X : Type}
theorem right_eq (m : Mem X) (c : Cf) : c_conf_Config_Right [.agg (cfC c)] m = some (.bool (decide (rightP c)), m ++ [.cells 6 false (cfC c)]) := Fn_eq (right_run c)
def slotA (c : Cf) (p i : Int) : Int := if rightP c then addrA c p (6 + i % c.q) else -1
set_option maxHeartbeats 4000000 in
theorem slot_eq (m : Mem X) (c : Cf) (p : Int) {i : Int} (hi : 0 ≤ i) (hi2 : i < 4294967296) : ∃ J, c_conf_Config_Slot [.agg (cfC c), .int .i64 p, .int .u32 i] m = some (.int .i64 (slotA c p i), m ++ J) := by
  have a157 : assoc [(157, c_conf_Config_Right (X := X)), (177, c_conf_own_at)] 157 = some c_conf_Config_Right := rfl
  have a177 : assoc [(157, c_conf_Config_Right (X := X)), (177, c_conf_own_at)] 177 = some c_conf_own_at := rfl
  have he : c_conf_Config_Slot (X := X) = amFunc [(157, c_conf_Config_Right), (177, c_conf_own_at)] conf_Config_Slot := rfl
  rw [he]
  generalize [(157, c_conf_Config_Right (X := X)), (177, c_conf_own_at)] = G at a157 a177 ⊢
  have hR := right_eq (m ++ [.cells 6 false (cfC c)]) c
  by_cases hr : rightP c
  · rw [decide_eq_true hr] at hR
    have hq : 2 ≤ c.q ∧ c.q ≤ 64 := by have := hr.2.1; unfold roomP at this; omega
    have e0 : IntKind.u32.wrap c.q = c.q := by rw [wrap32]; omega
    have h0 := Int.emod_nonneg i (b := c.q) (by omega)
    have h1 := Int.emod_lt_of_pos i (b := c.q) (by omega)
    have e1 : i.tmod c.q = i % c.q := Int.tmod_eq_emod_of_nonneg hi
    have e2 : IntKind.i64.wrap (i % c.q) = i % c.q := wrapI (by omega) (by omega)
    have e3 : IntKind.i64.wrap (6 + i % c.q) = 6 + i % c.q := wrapI (by omega) (by omega)
    have e4 : ¬ (c.q = 0) := by omega
    have ha := at_eq (m := m ++ [.cells 6 false (cfC c), .cells 6 false (cfC c)]) c p (6 + i % c.q) (by omega) (by omega)
    simp only [cfC, List.append_assoc, List.cons_append, List.nil_append] at hR ha
    refine ⟨[.cells 6 false (cfC c), .cells 6 false (cfC c), .cells 7 false (cfC c ++ [.int .i64 p]), .cells 6 false (cfC c)], Fn_eq (Fn_of rfl ?_)⟩
    simp (disch := first | assumption | omega | (simp only [List.length_cons, List.length_nil, List.length_set, List.length_append] <;> omega) | (simp only [get_mid, get_mid0, List.cons_append, List.append_assoc, List.getElem?_cons_zero, List.getElem?_cons_succ])) only [conf_Config_Slot, ek, ↓evW, ↓evQ, evB, evS, evL, List.map, AV.cells, List.all, AV.one, Bool.and_true, Bool.true_and, if_true, ↓thenQ_normal, ↓thenQ_exit, ↓thenQ_ret, ↓blockQ_normal, ↓blockQ_ret, ↓blockQ_exit, ↓CW_true, ↓CW_false, CW_true, CW_false, condT, condF, RQ_some, tupA_one, tupA_two, tupA_nil, Nat.reduceSub, Nat.reduceAdd, Nat.reduceMul, Nat.zero_add, Nat.add_zero, Nat.reduceLeDiff, Nat.reduceEqDiff, eqV, eqAll, fillA, and_self, and_true, true_and, Nat.le_refl, Bool.not_true, Bool.not_false, Bool.false_xor, Bool.true_xor, cond_true, cond_false, List.replicate, if_false, reduceIte, resAll, resA, ne_eq, decide_not, decide_true, decide_false, Int.reduceEq, Bool.not_true, Bool.not_false, not_true_eq_false, not_false_eq_true, cond_bool, cond_int, beq_self_eq_true, Int.reduceBEq, Bool.and_self, Bool.and_false, Bool.false_and, Bool.xor_false, Bool.xor_true, loadN_ldC, ldC_none, ldC_somes, stC_aggs, splice, storeN_stC, stC_int, stC_bool, stC_ptr, stC_nilp, stC_sl, stC_nils, getC_gcO, gcO_cells, W_draw_eq, ↓W_scope, ev_clear, evT, evF, evX, evM, ↓exitQ_normal, ↓exitQ_ret, ↓exitQ_exit, saA_self, saO_self, if_pos, if_neg, wrapI, get_concat, set_concat, Int.toNat_natCast, Int.toNat_zero, List.nil_append, Nat.mul_one, decide_eq_true, decide_eq_false, Int.reduceLE, Int.reduceLT, Int.reduceNeg, Bool.false_or, Bool.true_or, Bool.or_false, Bool.or_true, wrapU, Int.reduceAdd, Int.reduceSub, Int.reduceMul, List.append_assoc, List.length_append, get_mid, get_mid0, set_mid, set_mid0, List.length_set, List.length_cons, List.length_nil, List.cons_append, List.getElem?_append_left, List.set_append_left, get_at, get_at0, set_at, set_at0, List.getElem?_set_self, List.getElem?_set_ne, cfC, a157, hR, e0, e4, e1, e2, e3, a177, ha]
    rw [slotA, if_pos hr]
  · rw [decide_eq_false hr] at hR
    simp only [cfC, List.append_assoc, List.cons_append, List.nil_append] at hR
    refine ⟨[.cells 6 false (cfC c), .cells 6 false (cfC c)], Fn_eq (Fn_of rfl ?_)⟩
    simp (disch := first | assumption | omega | (simp only [List.length_cons, List.length_nil, List.length_set, List.length_append] <;> omega) | (simp only [get_mid, get_mid0, List.cons_append, List.append_assoc, List.getElem?_cons_zero, List.getElem?_cons_succ])) only [conf_Config_Slot, ek, ↓evW, ↓evQ, evB, evS, evL, List.map, AV.cells, List.all, AV.one, Bool.and_true, Bool.true_and, if_true, ↓thenQ_normal, ↓thenQ_exit, ↓thenQ_ret, ↓blockQ_normal, ↓blockQ_ret, ↓blockQ_exit, ↓CW_true, ↓CW_false, CW_true, CW_false, condT, condF, RQ_some, tupA_one, tupA_two, tupA_nil, Nat.reduceSub, Nat.reduceAdd, Nat.reduceMul, Nat.zero_add, Nat.add_zero, Nat.reduceLeDiff, Nat.reduceEqDiff, eqV, eqAll, fillA, and_self, and_true, true_and, Nat.le_refl, Bool.not_true, Bool.not_false, Bool.false_xor, Bool.true_xor, cond_true, cond_false, List.replicate, if_false, reduceIte, resAll, resA, ne_eq, decide_not, decide_true, decide_false, Int.reduceEq, Bool.not_true, Bool.not_false, not_true_eq_false, not_false_eq_true, cond_bool, cond_int, beq_self_eq_true, Int.reduceBEq, Bool.and_self, Bool.and_false, Bool.false_and, Bool.xor_false, Bool.xor_true, loadN_ldC, ldC_none, ldC_somes, stC_aggs, splice, storeN_stC, stC_int, stC_bool, stC_ptr, stC_nilp, stC_sl, stC_nils, getC_gcO, gcO_cells, W_draw_eq, ↓W_scope, ev_clear, evT, evF, evX, evM, ↓exitQ_normal, ↓exitQ_ret, ↓exitQ_exit, saA_self, saO_self, if_pos, if_neg, wrapI, get_concat, set_concat, Int.toNat_natCast, Int.toNat_zero, List.nil_append, Nat.mul_one, decide_eq_true, decide_eq_false, Int.reduceLE, Int.reduceLT, Int.reduceNeg, Bool.false_or, Bool.true_or, Bool.or_false, Bool.or_true, wrapU, Int.reduceAdd, Int.reduceSub, Int.reduceMul, List.append_assoc, List.length_append, get_mid, get_mid0, set_mid, set_mid0, List.length_set, List.length_cons, List.length_nil, List.cons_append, List.getElem?_append_left, List.set_append_left, get_at, get_at0, set_at, set_at0, List.getElem?_set_self, List.getElem?_set_ne, cfC, a157, hR]
    rw [slotA, if_neg hr]
def cellsN (c : Cf) : Nat := if rightP c then (4 + c.n * (6 + c.q)).toNat else 0
theorem cells_b {c : Cf} (h : rightP c) : (cellsN c : Int) = 4 + c.n * (6 + c.q) ∧ cellsN c ≤ 600 := by
  have hq : 2 ≤ c.q ∧ c.q ≤ 64 := by have := h.2.1; unfold roomP at this; omega
  have hn := h.1
  have hm : 0 ≤ c.n * (6 + c.q) ∧ c.n * (6 + c.q) ≤ 560 := by
    have h5 : c.n * (6 + c.q) ≤ 8 * 70 := Int.mul_le_mul hn.2 (by omega) (by omega) (by omega)
    exact ⟨Int.mul_nonneg (by omega) (by omega), by omega⟩
  unfold cellsN; rw [if_pos h]; omega
theorem cellsN_le (c : Cf) : cellsN c ≤ 600 := by
  by_cases h : rightP c
  · exact (cells_b h).2
  · unfold cellsN; rw [if_neg h]; omega
theorem addr_b {c : Cf} {p i : Int} (h : thereP c p) (h0 : 0 ≤ i) (h1 : i < 6 + c.q) : 0 ≤ addrA c p i ∧ addrA c p i < cellsN c := by
  have hb := there_bounds h
  have hc := (cells_b h.1).1
  have hm := mul_bounds hb.2.2.2.2.1 hb.2.2.2.2.2 (q := 6 + c.q) (by omega) (by omega)
  have h2 : (p + 1) * (6 + c.q) ≤ c.n * (6 + c.q) := Int.mul_le_mul_of_nonneg_right (by have := h.2.2; omega) (by omega)
  have h3 : (p + 1) * (6 + c.q) = p * (6 + c.q) + (6 + c.q) := by rw [Int.add_mul, Int.one_mul]
  unfold addrA; rw [if_pos h]; omega
theorem slot_b {c : Cf} {p i : Int} (h : thereP c p) (h0 : 0 ≤ i) : 0 ≤ slotA c p i ∧ slotA c p i < cellsN c := by
  have hb := there_bounds h
  have h1 := Int.emod_nonneg i (b := c.q) (by omega)
  have h2 := Int.emod_lt_of_pos i (b := c.q) (by omega)
  unfold slotA; rw [if_pos h.1]
  exact addr_b h (by omega) (by omega)
set_option maxHeartbeats 4000000 in
theorem cells_eq (m : Mem X) (c : Cf) : ∃ J, c_conf_Config_Cells [.agg (cfC c)] m = some (.int .i64 (cellsN c), m ++ J) := by
  have a157 : assoc [(157, c_conf_Config_Right (X := X))] 157 = some c_conf_Config_Right := rfl
  have he : c_conf_Config_Cells (X := X) = amFunc [(157, c_conf_Config_Right)] conf_Config_Cells := rfl
  rw [he]
  generalize [(157, c_conf_Config_Right (X := X))] = G at a157 ⊢
  have hR := right_eq (m ++ [.cells 6 false (cfC c)]) c
  refine ⟨[.cells 6 false (cfC c), .cells 6 false (cfC c)], Fn_eq (Fn_of rfl ?_)⟩
  by_cases hr : rightP c
  · rw [decide_eq_true hr] at hR
    have hq : 2 ≤ c.q ∧ c.q ≤ 64 := by have := hr.2.1; unfold roomP at this; omega
    have hb := cells_b hr
    have e1 : IntKind.i64.wrap (6 + c.q) = 6 + c.q := wrapI (by omega) (by omega)
    have e2 : IntKind.i64.wrap (c.n * (6 + c.q)) = c.n * (6 + c.q) := wrapI (by omega) (by omega)
    have e3 : IntKind.i64.wrap (4 + c.n * (6 + c.q)) = (cellsN c : Int) := by rw [wrapI (by omega) (by omega)]; exact hb.1.symm
    simp only [cfC, List.append_assoc, List.cons_append, List.nil_append] at hR
    simp (disch := first | assumption | omega | (simp only [List.length_cons, List.length_nil, List.length_set, List.length_append] <;> omega) | (simp only [get_mid, get_mid0, List.cons_append, List.append_assoc, List.getElem?_cons_zero, List.getElem?_cons_succ])) only [conf_Config_Cells, ek, ↓evW, ↓evQ, evB, evS, evL, List.map, AV.cells, List.all, AV.one, Bool.and_true, Bool.true_and, if_true, ↓thenQ_normal, ↓thenQ_exit, ↓thenQ_ret, ↓blockQ_normal, ↓blockQ_ret, ↓blockQ_exit, ↓CW_true, ↓CW_false, CW_true, CW_false, condT, condF, RQ_some, tupA_one, tupA_two, tupA_nil, Nat.reduceSub, Nat.reduceAdd, Nat.reduceMul, Nat.zero_add, Nat.add_zero, Nat.reduceLeDiff, Nat.reduceEqDiff, eqV, eqAll, fillA, and_self, and_true, true_and, Nat.le_refl, Bool.not_true, Bool.not_false, Bool.false_xor, Bool.true_xor, cond_true, cond_false, List.replicate, if_false, reduceIte, resAll, resA, ne_eq, decide_not, decide_true, decide_false, Int.reduceEq, Bool.not_true, Bool.not_false, not_true_eq_false, not_false_eq_true, cond_bool, cond_int, beq_self_eq_true, Int.reduceBEq, Bool.and_self, Bool.and_false, Bool.false_and, Bool.xor_false, Bool.xor_true, loadN_ldC, ldC_none, ldC_somes, stC_aggs, splice, storeN_stC, stC_int, stC_bool, stC_ptr, stC_nilp, stC_sl, stC_nils, getC_gcO, gcO_cells, W_draw_eq, ↓W_scope, ev_clear, evT, evF, evX, evM, ↓exitQ_normal, ↓exitQ_ret, ↓exitQ_exit, saA_self, saO_self, if_pos, if_neg, wrapI, get_concat, set_concat, Int.toNat_natCast, Int.toNat_zero, List.nil_append, Nat.mul_one, decide_eq_true, decide_eq_false, Int.reduceLE, Int.reduceLT, Int.reduceNeg, Bool.false_or, Bool.true_or, Bool.or_false, Bool.or_true, wrapU, Int.reduceAdd, Int.reduceSub, Int.reduceMul, List.append_assoc, List.length_append, get_mid, get_mid0, set_mid, set_mid0, List.length_set, List.length_cons, List.length_nil, List.cons_append, List.getElem?_append_left, List.set_append_left, get_at, get_at0, set_at, set_at0, List.getElem?_set_self, List.getElem?_set_ne, cfC, a157, hR, e1, e2, e3]
  · rw [decide_eq_false hr] at hR
    have hz : (cellsN c : Int) = 0 := by unfold cellsN; rw [if_neg hr]; rfl
    simp only [cfC, List.append_assoc, List.cons_append, List.nil_append] at hR
    simp (disch := first | assumption | omega | (simp only [List.length_cons, List.length_nil, List.length_set, List.length_append] <;> omega) | (simp only [get_mid, get_mid0, List.cons_append, List.append_assoc, List.getElem?_cons_zero, List.getElem?_cons_succ])) only [conf_Config_Cells, ek, ↓evW, ↓evQ, evB, evS, evL, List.map, AV.cells, List.all, AV.one, Bool.and_true, Bool.true_and, if_true, ↓thenQ_normal, ↓thenQ_exit, ↓thenQ_ret, ↓blockQ_normal, ↓blockQ_ret, ↓blockQ_exit, ↓CW_true, ↓CW_false, CW_true, CW_false, condT, condF, RQ_some, tupA_one, tupA_two, tupA_nil, Nat.reduceSub, Nat.reduceAdd, Nat.reduceMul, Nat.zero_add, Nat.add_zero, Nat.reduceLeDiff, Nat.reduceEqDiff, eqV, eqAll, fillA, and_self, and_true, true_and, Nat.le_refl, Bool.not_true, Bool.not_false, Bool.false_xor, Bool.true_xor, cond_true, cond_false, List.replicate, if_false, reduceIte, resAll, resA, ne_eq, decide_not, decide_true, decide_false, Int.reduceEq, Bool.not_true, Bool.not_false, not_true_eq_false, not_false_eq_true, cond_bool, cond_int, beq_self_eq_true, Int.reduceBEq, Bool.and_self, Bool.and_false, Bool.false_and, Bool.xor_false, Bool.xor_true, loadN_ldC, ldC_none, ldC_somes, stC_aggs, splice, storeN_stC, stC_int, stC_bool, stC_ptr, stC_nilp, stC_sl, stC_nils, getC_gcO, gcO_cells, W_draw_eq, ↓W_scope, ev_clear, evT, evF, evX, evM, ↓exitQ_normal, ↓exitQ_ret, ↓exitQ_exit, saA_self, saO_self, if_pos, if_neg, wrapI, get_concat, set_concat, Int.toNat_natCast, Int.toNat_zero, List.nil_append, Nat.mul_one, decide_eq_true, decide_eq_false, Int.reduceLE, Int.reduceLT, Int.reduceNeg, Bool.false_or, Bool.true_or, Bool.or_false, Bool.or_true, wrapU, Int.reduceAdd, Int.reduceSub, Int.reduceMul, List.append_assoc, List.length_append, get_mid, get_mid0, set_mid, set_mid0, List.length_set, List.length_cons, List.length_nil, List.cons_append, List.getElem?_append_left, List.set_append_left, get_at, get_at0, set_at, set_at0, List.getElem?_set_self, List.getElem?_set_ne, cfC, a157, hR, hz]
set_option maxHeartbeats 4000000 in
theorem next_eq (m : Mem X) (c : Cf) (p : Int) : c_conf_Config_Next [.agg (cfC c), .int .i64 p] m = some (.int .i64 (addrA c p 1), m ++ [.cells 6 false (cfC c), .cells 7 false (cfC c ++ [.int .i64 p]), .cells 6 false (cfC c)]) := by
  have a177 : assoc [(177, c_conf_own_at (X := X))] 177 = some c_conf_own_at := rfl
  have he : c_conf_Config_Next (X := X) = amFunc [(177, c_conf_own_at)] conf_Config_Next := rfl
  have ha := at_eq (m := m ++ [.cells 6 false (cfC c)]) c p 1 (by omega) (by omega)
  rw [he]
  generalize [(177, c_conf_own_at (X := X))] = G at a177 ⊢
  simp only [cfC, List.append_assoc, List.cons_append, List.nil_append] at ha
  refine Fn_eq (Fn_of rfl ?_)
  simp (disch := first | assumption | omega | (simp only [List.length_cons, List.length_nil, List.length_set, List.length_append] <;> omega) | (simp only [get_mid, get_mid0, List.cons_append, List.append_assoc, List.getElem?_cons_zero, List.getElem?_cons_succ])) only [conf_Config_Next, ek, ↓evW, ↓evQ, evB, evS, evL, List.map, AV.cells, List.all, AV.one, Bool.and_true, Bool.true_and, if_true, ↓thenQ_normal, ↓thenQ_exit, ↓thenQ_ret, ↓blockQ_normal, ↓blockQ_ret, ↓blockQ_exit, ↓CW_true, ↓CW_false, CW_true, CW_false, condT, condF, RQ_some, tupA_one, tupA_two, tupA_nil, Nat.reduceSub, Nat.reduceAdd, Nat.reduceMul, Nat.zero_add, Nat.add_zero, Nat.reduceLeDiff, Nat.reduceEqDiff, eqV, eqAll, fillA, and_self, and_true, true_and, Nat.le_refl, Bool.not_true, Bool.not_false, Bool.false_xor, Bool.true_xor, cond_true, cond_false, List.replicate, if_false, reduceIte, resAll, resA, ne_eq, decide_not, decide_true, decide_false, Int.reduceEq, Bool.not_true, Bool.not_false, not_true_eq_false, not_false_eq_true, cond_bool, cond_int, beq_self_eq_true, Int.reduceBEq, Bool.and_self, Bool.and_false, Bool.false_and, Bool.xor_false, Bool.xor_true, loadN_ldC, ldC_none, ldC_somes, stC_aggs, splice, storeN_stC, stC_int, stC_bool, stC_ptr, stC_nilp, stC_sl, stC_nils, getC_gcO, gcO_cells, W_draw_eq, ↓W_scope, ev_clear, evT, evF, evX, evM, ↓exitQ_normal, ↓exitQ_ret, ↓exitQ_exit, saA_self, saO_self, if_pos, if_neg, wrapI, get_concat, set_concat, Int.toNat_natCast, Int.toNat_zero, List.nil_append, Nat.mul_one, decide_eq_true, decide_eq_false, Int.reduceLE, Int.reduceLT, Int.reduceNeg, Bool.false_or, Bool.true_or, Bool.or_false, Bool.or_true, wrapU, Int.reduceAdd, Int.reduceSub, Int.reduceMul, List.append_assoc, List.length_append, get_mid, get_mid0, set_mid, set_mid0, List.length_set, List.length_cons, List.length_nil, List.cons_append, List.getElem?_append_left, List.set_append_left, get_at, get_at0, set_at, set_at0, List.getElem?_set_self, List.getElem?_set_ne, cfC, a177, ha]
set_option maxHeartbeats 4000000 in
theorem stat_eq (m : Mem X) (c : Cf) (p : Int) : c_conf_Config_Stat [.agg (cfC c), .int .i64 p] m = some (.int .i64 (addrA c p 2), m ++ [.cells 6 false (cfC c), .cells 7 false (cfC c ++ [.int .i64 p]), .cells 6 false (cfC c)]) := by
  have a177 : assoc [(177, c_conf_own_at (X := X))] 177 = some c_conf_own_at := rfl
  have he : c_conf_Config_Stat (X := X) = amFunc [(177, c_conf_own_at)] conf_Config_Stat := rfl
  have ha := at_eq (m := m ++ [.cells 6 false (cfC c)]) c p 2 (by omega) (by omega)
  rw [he]
  generalize [(177, c_conf_own_at (X := X))] = G at a177 ⊢
  simp only [cfC, List.append_assoc, List.cons_append, List.nil_append] at ha
  refine Fn_eq (Fn_of rfl ?_)
  simp (disch := first | assumption | omega | (simp only [List.length_cons, List.length_nil, List.length_set, List.length_append] <;> omega) | (simp only [get_mid, get_mid0, List.cons_append, List.append_assoc, List.getElem?_cons_zero, List.getElem?_cons_succ])) only [conf_Config_Stat, ek, ↓evW, ↓evQ, evB, evS, evL, List.map, AV.cells, List.all, AV.one, Bool.and_true, Bool.true_and, if_true, ↓thenQ_normal, ↓thenQ_exit, ↓thenQ_ret, ↓blockQ_normal, ↓blockQ_ret, ↓blockQ_exit, ↓CW_true, ↓CW_false, CW_true, CW_false, condT, condF, RQ_some, tupA_one, tupA_two, tupA_nil, Nat.reduceSub, Nat.reduceAdd, Nat.reduceMul, Nat.zero_add, Nat.add_zero, Nat.reduceLeDiff, Nat.reduceEqDiff, eqV, eqAll, fillA, and_self, and_true, true_and, Nat.le_refl, Bool.not_true, Bool.not_false, Bool.false_xor, Bool.true_xor, cond_true, cond_false, List.replicate, if_false, reduceIte, resAll, resA, ne_eq, decide_not, decide_true, decide_false, Int.reduceEq, Bool.not_true, Bool.not_false, not_true_eq_false, not_false_eq_true, cond_bool, cond_int, beq_self_eq_true, Int.reduceBEq, Bool.and_self, Bool.and_false, Bool.false_and, Bool.xor_false, Bool.xor_true, loadN_ldC, ldC_none, ldC_somes, stC_aggs, splice, storeN_stC, stC_int, stC_bool, stC_ptr, stC_nilp, stC_sl, stC_nils, getC_gcO, gcO_cells, W_draw_eq, ↓W_scope, ev_clear, evT, evF, evX, evM, ↓exitQ_normal, ↓exitQ_ret, ↓exitQ_exit, saA_self, saO_self, if_pos, if_neg, wrapI, get_concat, set_concat, Int.toNat_natCast, Int.toNat_zero, List.nil_append, Nat.mul_one, decide_eq_true, decide_eq_false, Int.reduceLE, Int.reduceLT, Int.reduceNeg, Bool.false_or, Bool.true_or, Bool.or_false, Bool.or_true, wrapU, Int.reduceAdd, Int.reduceSub, Int.reduceMul, List.append_assoc, List.length_append, get_mid, get_mid0, set_mid, set_mid0, List.length_set, List.length_cons, List.length_nil, List.cons_append, List.getElem?_append_left, List.set_append_left, get_at, get_at0, set_at, set_at0, List.getElem?_set_self, List.getElem?_set_ne, cfC, a177, ha]
set_option maxHeartbeats 4000000 in
theorem tick_eq (m : Mem X) (c : Cf) (p : Int) : c_conf_Config_Tick [.agg (cfC c), .int .i64 p] m = some (.int .i64 (addrA c p 3), m ++ [.cells 6 false (cfC c), .cells 7 false (cfC c ++ [.int .i64 p]), .cells 6 false (cfC c)]) := by
  have a177 : assoc [(177, c_conf_own_at (X := X))] 177 = some c_conf_own_at := rfl
  have he : c_conf_Config_Tick (X := X) = amFunc [(177, c_conf_own_at)] conf_Config_Tick := rfl
  have ha := at_eq (m := m ++ [.cells 6 false (cfC c)]) c p 3 (by omega) (by omega)
  rw [he]
  generalize [(177, c_conf_own_at (X := X))] = G at a177 ⊢
  simp only [cfC, List.append_assoc, List.cons_append, List.nil_append] at ha
  refine Fn_eq (Fn_of rfl ?_)
  simp (disch := first | assumption | omega | (simp only [List.length_cons, List.length_nil, List.length_set, List.length_append] <;> omega) | (simp only [get_mid, get_mid0, List.cons_append, List.append_assoc, List.getElem?_cons_zero, List.getElem?_cons_succ])) only [conf_Config_Tick, ek, ↓evW, ↓evQ, evB, evS, evL, List.map, AV.cells, List.all, AV.one, Bool.and_true, Bool.true_and, if_true, ↓thenQ_normal, ↓thenQ_exit, ↓thenQ_ret, ↓blockQ_normal, ↓blockQ_ret, ↓blockQ_exit, ↓CW_true, ↓CW_false, CW_true, CW_false, condT, condF, RQ_some, tupA_one, tupA_two, tupA_nil, Nat.reduceSub, Nat.reduceAdd, Nat.reduceMul, Nat.zero_add, Nat.add_zero, Nat.reduceLeDiff, Nat.reduceEqDiff, eqV, eqAll, fillA, and_self, and_true, true_and, Nat.le_refl, Bool.not_true, Bool.not_false, Bool.false_xor, Bool.true_xor, cond_true, cond_false, List.replicate, if_false, reduceIte, resAll, resA, ne_eq, decide_not, decide_true, decide_false, Int.reduceEq, Bool.not_true, Bool.not_false, not_true_eq_false, not_false_eq_true, cond_bool, cond_int, beq_self_eq_true, Int.reduceBEq, Bool.and_self, Bool.and_false, Bool.false_and, Bool.xor_false, Bool.xor_true, loadN_ldC, ldC_none, ldC_somes, stC_aggs, splice, storeN_stC, stC_int, stC_bool, stC_ptr, stC_nilp, stC_sl, stC_nils, getC_gcO, gcO_cells, W_draw_eq, ↓W_scope, ev_clear, evT, evF, evX, evM, ↓exitQ_normal, ↓exitQ_ret, ↓exitQ_exit, saA_self, saO_self, if_pos, if_neg, wrapI, get_concat, set_concat, Int.toNat_natCast, Int.toNat_zero, List.nil_append, Nat.mul_one, decide_eq_true, decide_eq_false, Int.reduceLE, Int.reduceLT, Int.reduceNeg, Bool.false_or, Bool.true_or, Bool.or_false, Bool.or_true, wrapU, Int.reduceAdd, Int.reduceSub, Int.reduceMul, List.append_assoc, List.length_append, get_mid, get_mid0, set_mid, set_mid0, List.length_set, List.length_cons, List.length_nil, List.cons_append, List.getElem?_append_left, List.set_append_left, get_at, get_at0, set_at, set_at0, List.getElem?_set_self, List.getElem?_set_ne, cfC, a177, ha]
set_option maxHeartbeats 4000000 in
theorem sys_eq (m : Mem X) (c : Cf) (p : Int) : c_conf_Config_Sys [.agg (cfC c), .int .i64 p] m = some (.int .i64 (addrA c p 4), m ++ [.cells 6 false (cfC c), .cells 7 false (cfC c ++ [.int .i64 p]), .cells 6 false (cfC c)]) := by
  have a177 : assoc [(177, c_conf_own_at (X := X))] 177 = some c_conf_own_at := rfl
  have he : c_conf_Config_Sys (X := X) = amFunc [(177, c_conf_own_at)] conf_Config_Sys := rfl
  have ha := at_eq (m := m ++ [.cells 6 false (cfC c)]) c p 4 (by omega) (by omega)
  rw [he]
  generalize [(177, c_conf_own_at (X := X))] = G at a177 ⊢
  simp only [cfC, List.append_assoc, List.cons_append, List.nil_append] at ha
  refine Fn_eq (Fn_of rfl ?_)
  simp (disch := first | assumption | omega | (simp only [List.length_cons, List.length_nil, List.length_set, List.length_append] <;> omega) | (simp only [get_mid, get_mid0, List.cons_append, List.append_assoc, List.getElem?_cons_zero, List.getElem?_cons_succ])) only [conf_Config_Sys, ek, ↓evW, ↓evQ, evB, evS, evL, List.map, AV.cells, List.all, AV.one, Bool.and_true, Bool.true_and, if_true, ↓thenQ_normal, ↓thenQ_exit, ↓thenQ_ret, ↓blockQ_normal, ↓blockQ_ret, ↓blockQ_exit, ↓CW_true, ↓CW_false, CW_true, CW_false, condT, condF, RQ_some, tupA_one, tupA_two, tupA_nil, Nat.reduceSub, Nat.reduceAdd, Nat.reduceMul, Nat.zero_add, Nat.add_zero, Nat.reduceLeDiff, Nat.reduceEqDiff, eqV, eqAll, fillA, and_self, and_true, true_and, Nat.le_refl, Bool.not_true, Bool.not_false, Bool.false_xor, Bool.true_xor, cond_true, cond_false, List.replicate, if_false, reduceIte, resAll, resA, ne_eq, decide_not, decide_true, decide_false, Int.reduceEq, Bool.not_true, Bool.not_false, not_true_eq_false, not_false_eq_true, cond_bool, cond_int, beq_self_eq_true, Int.reduceBEq, Bool.and_self, Bool.and_false, Bool.false_and, Bool.xor_false, Bool.xor_true, loadN_ldC, ldC_none, ldC_somes, stC_aggs, splice, storeN_stC, stC_int, stC_bool, stC_ptr, stC_nilp, stC_sl, stC_nils, getC_gcO, gcO_cells, W_draw_eq, ↓W_scope, ev_clear, evT, evF, evX, evM, ↓exitQ_normal, ↓exitQ_ret, ↓exitQ_exit, saA_self, saO_self, if_pos, if_neg, wrapI, get_concat, set_concat, Int.toNat_natCast, Int.toNat_zero, List.nil_append, Nat.mul_one, decide_eq_true, decide_eq_false, Int.reduceLE, Int.reduceLT, Int.reduceNeg, Bool.false_or, Bool.true_or, Bool.or_false, Bool.or_true, wrapU, Int.reduceAdd, Int.reduceSub, Int.reduceMul, List.append_assoc, List.length_append, get_mid, get_mid0, set_mid, set_mid0, List.length_set, List.length_cons, List.length_nil, List.cons_append, List.getElem?_append_left, List.set_append_left, get_at, get_at0, set_at, set_at0, List.getElem?_set_self, List.getElem?_set_ne, cfC, a177, ha]
set_option maxHeartbeats 4000000 in
theorem flag_eq (m : Mem X) (c : Cf) (p : Int) : c_conf_Config_Flag [.agg (cfC c), .int .i64 p] m = some (.int .i64 (addrA c p 5), m ++ [.cells 6 false (cfC c), .cells 7 false (cfC c ++ [.int .i64 p]), .cells 6 false (cfC c)]) := by
  have a177 : assoc [(177, c_conf_own_at (X := X))] 177 = some c_conf_own_at := rfl
  have he : c_conf_Config_Flag (X := X) = amFunc [(177, c_conf_own_at)] conf_Config_Flag := rfl
  have ha := at_eq (m := m ++ [.cells 6 false (cfC c)]) c p 5 (by omega) (by omega)
  rw [he]
  generalize [(177, c_conf_own_at (X := X))] = G at a177 ⊢
  simp only [cfC, List.append_assoc, List.cons_append, List.nil_append] at ha
  refine Fn_eq (Fn_of rfl ?_)
  simp (disch := first | assumption | omega | (simp only [List.length_cons, List.length_nil, List.length_set, List.length_append] <;> omega) | (simp only [get_mid, get_mid0, List.cons_append, List.append_assoc, List.getElem?_cons_zero, List.getElem?_cons_succ])) only [conf_Config_Flag, ek, ↓evW, ↓evQ, evB, evS, evL, List.map, AV.cells, List.all, AV.one, Bool.and_true, Bool.true_and, if_true, ↓thenQ_normal, ↓thenQ_exit, ↓thenQ_ret, ↓blockQ_normal, ↓blockQ_ret, ↓blockQ_exit, ↓CW_true, ↓CW_false, CW_true, CW_false, condT, condF, RQ_some, tupA_one, tupA_two, tupA_nil, Nat.reduceSub, Nat.reduceAdd, Nat.reduceMul, Nat.zero_add, Nat.add_zero, Nat.reduceLeDiff, Nat.reduceEqDiff, eqV, eqAll, fillA, and_self, and_true, true_and, Nat.le_refl, Bool.not_true, Bool.not_false, Bool.false_xor, Bool.true_xor, cond_true, cond_false, List.replicate, if_false, reduceIte, resAll, resA, ne_eq, decide_not, decide_true, decide_false, Int.reduceEq, Bool.not_true, Bool.not_false, not_true_eq_false, not_false_eq_true, cond_bool, cond_int, beq_self_eq_true, Int.reduceBEq, Bool.and_self, Bool.and_false, Bool.false_and, Bool.xor_false, Bool.xor_true, loadN_ldC, ldC_none, ldC_somes, stC_aggs, splice, storeN_stC, stC_int, stC_bool, stC_ptr, stC_nilp, stC_sl, stC_nils, getC_gcO, gcO_cells, W_draw_eq, ↓W_scope, ev_clear, evT, evF, evX, evM, ↓exitQ_normal, ↓exitQ_ret, ↓exitQ_exit, saA_self, saO_self, if_pos, if_neg, wrapI, get_concat, set_concat, Int.toNat_natCast, Int.toNat_zero, List.nil_append, Nat.mul_one, decide_eq_true, decide_eq_false, Int.reduceLE, Int.reduceLT, Int.reduceNeg, Bool.false_or, Bool.true_or, Bool.or_false, Bool.or_true, wrapU, Int.reduceAdd, Int.reduceSub, Int.reduceMul, List.append_assoc, List.length_append, get_mid, get_mid0, set_mid, set_mid0, List.length_set, List.length_cons, List.length_nil, List.cons_append, List.getElem?_append_left, List.set_append_left, get_at, get_at0, set_at, set_at0, List.getElem?_set_self, List.getElem?_set_ne, cfC, a177, ha]
abbrev SB (m : Mem X) (bs : List Int) (v : AV) : Prop := Sl m false 1 bs.length (bs.map (AV.int .u8)) v
def byteV (bs : List Int) (i : Int) : Int := bs.getD i.toNat 0
theorem byteV_b {bs : List Int} (hb : ∀ x, x ∈ bs → 0 ≤ x ∧ x < 256) (i : Int) : 0 ≤ byteV bs i ∧ byteV bs i < 256 := by
  unfold byteV
  rw [List.getD_eq_getElem?_getD]
  cases h : bs[i.toNat]? with
  | none => simp
  | some x => exact hb x (List.mem_of_getElem? h)
theorem byte_eq {m : Mem X} {bs : List Int} {v : AV} (h : SB m bs v) (hb : ∀ x, x ∈ bs → 0 ≤ x ∧ x < 256) {i : Int} (hi : 0 ≤ i) : c_docs_byteAt [v, .int .i64 i] m = some (.int .i64 (byteV bs i), m) := by
  have hlen := h.len
  have he : c_docs_byteAt (X := X) = amFunc [] docs_byteAt := rfl
  rw [he]
  by_cases hlt : i < bs.length
  · obtain ⟨k, rfl⟩ : ∃ k : Nat, i = k := ⟨i.toNat, by omega⟩
    obtain ⟨x, hx⟩ : ∃ x, bs[k]? = some x := ⟨_, List.getElem?_eq_getElem (by omega)⟩
    have hxb := hb x (List.mem_of_getElem? hx)
    have hv : byteV bs k = x := by unfold byteV; rw [List.getD_eq_getElem?_getD, Int.toNat_natCast, hx]; rfl
    rw [hv]
    obtain ⟨q, o, cap, ro, L, rfl, h2, h3, h4, _⟩ := h.at (by omega)
    have hg : L[o + k]? = some (.int .u8 x) := by rw [sl_get h3 (by omega)]; simp [hx]
    have e1 : IntKind.i64.wrap x = x := wrapI (by omega) (by omega)
    refine Fn_eq (Fn_of rfl ?_)
    simp (disch := first | assumption | omega | (simp only [List.length_cons, List.length_nil, List.length_set, List.length_append] <;> omega) | (simp only [get_mid, get_mid0, List.cons_append, List.append_assoc, List.getElem?_cons_zero, List.getElem?_cons_succ])) only [docs_byteAt, ek, ↓evW, ↓evQ, evB, evS, evL, List.map, AV.cells, List.all, AV.one, Bool.and_true, Bool.true_and, if_true, ↓thenQ_normal, ↓thenQ_exit, ↓thenQ_ret, ↓blockQ_normal, ↓blockQ_ret, ↓blockQ_exit, ↓CW_true, ↓CW_false, CW_true, CW_false, condT, condF, RQ_some, tupA_one, tupA_two, tupA_nil, Nat.reduceSub, Nat.reduceAdd, Nat.reduceMul, Nat.zero_add, Nat.add_zero, Nat.reduceLeDiff, Nat.reduceEqDiff, eqV, eqAll, fillA, and_self, and_true, true_and, Nat.le_refl, Bool.not_true, Bool.not_false, Bool.false_xor, Bool.true_xor, cond_true, cond_false, List.replicate, if_false, reduceIte, resAll, resA, ne_eq, decide_not, decide_true, decide_false, Int.reduceEq, Bool.not_true, Bool.not_false, not_true_eq_false, not_false_eq_true, cond_bool, cond_int, beq_self_eq_true, Int.reduceBEq, Bool.and_self, Bool.and_false, Bool.false_and, Bool.xor_false, Bool.xor_true, loadN_ldC, ldC_none, ldC_somes, stC_aggs, splice, storeN_stC, stC_int, stC_bool, stC_ptr, stC_nilp, stC_sl, stC_nils, getC_gcO, gcO_cells, W_draw_eq, ↓W_scope, ev_clear, evT, evF, evX, evM, ↓exitQ_normal, ↓exitQ_ret, ↓exitQ_exit, saA_self, saO_self, if_pos, if_neg, wrapI, get_concat, set_concat, Int.toNat_natCast, Int.toNat_zero, List.nil_append, Nat.mul_one, decide_eq_true, decide_eq_false, Int.reduceLE, Int.reduceLT, Int.reduceNeg, Bool.false_or, Bool.true_or, Bool.or_false, Bool.or_true, wrapU, Int.reduceAdd, Int.reduceSub, Int.reduceMul, List.append_assoc, List.length_append, get_mid, get_mid0, set_mid, set_mid0, List.length_set, List.length_cons, List.length_nil, List.cons_append, List.getElem?_append_left, List.set_append_left, get_at, get_at0, set_at, set_at0, List.getElem?_set_self, List.getElem?_set_ne, ev_len, hlen, h2, hg, e1]
  · have hv : byteV bs i = 0 := by unfold byteV; rw [List.getD_eq_getElem?_getD, List.getElem?_eq_none (by omega)]; rfl
    rw [hv]
    refine Fn_eq (Fn_of rfl ?_)
    simp (disch := first | assumption | omega | (simp only [List.length_cons, List.length_nil, List.length_set, List.length_append] <;> omega) | (simp only [get_mid, get_mid0, List.cons_append, List.append_assoc, List.getElem?_cons_zero, List.getElem?_cons_succ])) only [docs_byteAt, ek, ↓evW, ↓evQ, evB, evS, evL, List.map, AV.cells, List.all, AV.one, Bool.and_true, Bool.true_and, if_true, ↓thenQ_normal, ↓thenQ_exit, ↓thenQ_ret, ↓blockQ_normal, ↓blockQ_ret, ↓blockQ_exit, ↓CW_true, ↓CW_false, CW_true, CW_false, condT, condF, RQ_some, tupA_one, tupA_two, tupA_nil, Nat.reduceSub, Nat.reduceAdd, Nat.reduceMul, Nat.zero_add, Nat.add_zero, Nat.reduceLeDiff, Nat.reduceEqDiff, eqV, eqAll, fillA, and_self, and_true, true_and, Nat.le_refl, Bool.not_true, Bool.not_false, Bool.false_xor, Bool.true_xor, cond_true, cond_false, List.replicate, if_false, reduceIte, resAll, resA, ne_eq, decide_not, decide_true, decide_false, Int.reduceEq, Bool.not_true, Bool.not_false, not_true_eq_false, not_false_eq_true, cond_bool, cond_int, beq_self_eq_true, Int.reduceBEq, Bool.and_self, Bool.and_false, Bool.false_and, Bool.xor_false, Bool.xor_true, loadN_ldC, ldC_none, ldC_somes, stC_aggs, splice, storeN_stC, stC_int, stC_bool, stC_ptr, stC_nilp, stC_sl, stC_nils, getC_gcO, gcO_cells, W_draw_eq, ↓W_scope, ev_clear, evT, evF, evX, evM, ↓exitQ_normal, ↓exitQ_ret, ↓exitQ_exit, saA_self, saO_self, if_pos, if_neg, wrapI, get_concat, set_concat, Int.toNat_natCast, Int.toNat_zero, List.nil_append, Nat.mul_one, decide_eq_true, decide_eq_false, Int.reduceLE, Int.reduceLT, Int.reduceNeg, Bool.false_or, Bool.true_or, Bool.or_false, Bool.or_true, wrapU, Int.reduceAdd, Int.reduceSub, Int.reduceMul, List.append_assoc, List.length_append, get_mid, get_mid0, set_mid, set_mid0, List.length_set, List.length_cons, List.length_nil, List.cons_append, List.getElem?_append_left, List.set_append_left, get_at, get_at0, set_at, set_at0, List.getElem?_set_self, List.getElem?_set_ne, ev_len, hlen]
set_option maxHeartbeats 4000000 in
theorem slot_eqR (m : Mem X) {c : Cf} (hr : rightP c) (p : Int) {i : Int} (hi : 0 ≤ i) (hi2 : i < 4294967296) : c_conf_Config_Slot [.agg (cfC c), .int .i64 p, .int .u32 i] m = some (.int .i64 (slotA c p i), m ++ [.cells 6 false (cfC c), .cells 6 false (cfC c), .cells 7 false (cfC c ++ [.int .i64 p]), .cells 6 false (cfC c)]) := by
  have a157 : assoc [(157, c_conf_Config_Right (X := X)), (177, c_conf_own_at)] 157 = some c_conf_Config_Right := rfl
  have a177 : assoc [(157, c_conf_Config_Right (X := X)), (177, c_conf_own_at)] 177 = some c_conf_own_at := rfl
  have he : c_conf_Config_Slot (X := X) = amFunc [(157, c_conf_Config_Right), (177, c_conf_own_at)] conf_Config_Slot := rfl
  rw [he]
  generalize [(157, c_conf_Config_Right (X := X)), (177, c_conf_own_at)] = G at a157 a177 ⊢
  have hR := right_eq (m ++ [.cells 6 false (cfC c)]) c
  rw [decide_eq_true hr] at hR
  have hq : 2 ≤ c.q ∧ c.q ≤ 64 := by have := hr.2.1; unfold roomP at this; omega
  have e0 : IntKind.u32.wrap c.q = c.q := by rw [wrap32]; omega
  have h0 := Int.emod_nonneg i (b := c.q) (by omega)
  have h1 := Int.emod_lt_of_pos i (b := c.q) (by omega)
  have e1 : i.tmod c.q = i % c.q := Int.tmod_eq_emod_of_nonneg hi
  have e2 : IntKind.i64.wrap (i % c.q) = i % c.q := wrapI (by omega) (by omega)
  have e3 : IntKind.i64.wrap (6 + i % c.q) = 6 + i % c.q := wrapI (by omega) (by omega)
  have e4 : ¬ (c.q = 0) := by omega
  have ha := at_eq (m := m ++ [.cells 6 false (cfC c), .cells 6 false (cfC c)]) c p (6 + i % c.q) (by omega) (by omega)
  simp only [cfC, List.append_assoc, List.cons_append, List.nil_append] at hR ha
  refine Fn_eq (Fn_of rfl ?_)
  simp (disch := first | assumption | omega | (simp only [List.length_cons, List.length_nil, List.length_set, List.length_append] <;> omega) | (simp only [get_mid, get_mid0, List.cons_append, List.append_assoc, List.getElem?_cons_zero, List.getElem?_cons_succ])) only [conf_Config_Slot, ek, ↓evW, ↓evQ, evB, evS, evL, List.map, AV.cells, List.all, AV.one, Bool.and_true, Bool.true_and, if_true, ↓thenQ_normal, ↓thenQ_exit, ↓thenQ_ret, ↓blockQ_normal, ↓blockQ_ret, ↓blockQ_exit, ↓CW_true, ↓CW_false, CW_true, CW_false, condT, condF, RQ_some, tupA_one, tupA_two, tupA_nil, Nat.reduceSub, Nat.reduceAdd, Nat.reduceMul, Nat.zero_add, Nat.add_zero, Nat.reduceLeDiff, Nat.reduceEqDiff, eqV, eqAll, fillA, and_self, and_true, true_and, Nat.le_refl, Bool.not_true, Bool.not_false, Bool.false_xor, Bool.true_xor, cond_true, cond_false, List.replicate, if_false, reduceIte, resAll, resA, ne_eq, decide_not, decide_true, decide_false, Int.reduceEq, Bool.not_true, Bool.not_false, not_true_eq_false, not_false_eq_true, cond_bool, cond_int, beq_self_eq_true, Int.reduceBEq, Bool.and_self, Bool.and_false, Bool.false_and, Bool.xor_false, Bool.xor_true, loadN_ldC, ldC_none, ldC_somes, stC_aggs, splice, storeN_stC, stC_int, stC_bool, stC_ptr, stC_nilp, stC_sl, stC_nils, getC_gcO, gcO_cells, W_draw_eq, ↓W_scope, ev_clear, evT, evF, evX, evM, ↓exitQ_normal, ↓exitQ_ret, ↓exitQ_exit, saA_self, saO_self, if_pos, if_neg, wrapI, get_concat, set_concat, Int.toNat_natCast, Int.toNat_zero, List.nil_append, Nat.mul_one, decide_eq_true, decide_eq_false, Int.reduceLE, Int.reduceLT, Int.reduceNeg, Bool.false_or, Bool.true_or, Bool.or_false, Bool.or_true, wrapU, Int.reduceAdd, Int.reduceSub, Int.reduceMul, List.append_assoc, List.length_append, get_mid, get_mid0, set_mid, set_mid0, List.length_set, List.length_cons, List.length_nil, List.cons_append, List.getElem?_append_left, List.set_append_left, get_at, get_at0, set_at, set_at0, List.getElem?_set_self, List.getElem?_set_ne, cfC, a157, hR, e0, e4, e1, e2, e3, a177, ha]
  rw [slotA, if_pos hr]
end Go.Am.F10
end
